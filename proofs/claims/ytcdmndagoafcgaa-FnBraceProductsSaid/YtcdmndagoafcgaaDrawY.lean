/- Draw DrawT GrowP DrawR DrawY -/
import Derived.Test.YtcdmndagoafcgaaTable
import Derived.Test.YtcdmndagoafcgaaOwn2
import Derived.Test.YtcdmndagoafcgaaRack
import Derived.Test.YtcdmndagoafcgaaCmp
section
open Go Go.Proofs
namespace Go.Sx
set_option linter.unusedSimpArgs false
set_option linter.unusedVariables false
def bytesB (code:List Int):Prop:=∀x∈code,0≤x∧x≤255
theorem bytes_get {code:List Int} (h:bytesB code) (i:Nat):0≤code.getD i 0∧code.getD i 0≤255:=by
 by_cases hi:i<code.length
 ·rw [getD_lt code 0 i hi];exact h _ (List.getElem_mem hi)
 ·rw [List.getD_eq_getElem?_getD,List.getElem?_eq_none (by omega)];decide
def stepH (h:Int):Int:=IntKind.wrap .u64 (IntKind.wrap .u64 (h * 6364136223846793005)+1442695040888963407)
def nxH (h n:Int):Int:=if n<1 then h else stepH h
def nxA (L:Nat) (a n:Int):Int:=if n<1 then a else if a<(L:Int) then a+1 else a
def nxR (h:Int):Int:=(((stepH h / 2 ^ 33).toNat &&& 16777215:Nat):Int)
def nxV (code:List Int) (a h n:Int):Int:=if n<1 then 0 else if a<(code.length:Int) then (nxR h+code.getD a.toNat 0).tmod n else (nxR h).tmod n
theorem wrapU_in (x:Int):0≤IntKind.wrap .u64 x∧IntKind.wrap .u64 x≤18446744073709551615:=by
 have:IntKind.wrap .u64 x=x % 18446744073709551616:=rfl
 omega
theorem tmod_in' {a m:Int} (h:0≤a) (hm:1≤m):0≤a.tmod m∧a.tmod m≤m - 1:=by
 rw [Int.tmod_eq_emod_of_nonneg h]
 have h1:=Int.emod_nonneg a (show m≠0 by omega)
 have h2:=Int.emod_lt_of_pos a (show 0<m by omega)
 omega
def dpS (code:List Int) (a h:Int):Nat→List Int×Int×Int
 | 0=>([],a,h)
 | i+1=>let s:=dpS code a h i
  let k:=(nxV code s.2.1 s.2.2 ((i:Int)+1)).toNat
  (s.1.take k++((i:Int)::s.1.drop k),nxA code.length s.2.1 ((i:Int)+1),nxH s.2.2 ((i:Int)+1))
theorem nxR_in (h:Int):0≤nxR h∧nxR h≤16777215:=by
 have:((stepH h / 2 ^ 33).toNat &&& 16777215)≤16777215:=Nat.and_le_right
 unfold nxR
 omega
def l01Next_p (code:List Int) (a:Int) (h:Int) (n:Int):Post:=⟨bytesB code∧0≤a∧a≤1099511627776,.c (.int .i64 (nxV code a h n)),[.bx [.ints .u8 (code),.int .i64 (nxA code.length a n),.int .u64 (nxH h n)]]⟩
def l01Next_ct:List AD→Option Post
 | [.box [.ints .u8 (code),.int .i64 (a),.int .u64 (h)],.c (.int .i64 (n))]=>some (l01Next_p code a h n)
 | _=>none
def l01Next_G:List (Nat×Ctr):=[]
def l01Next_c1 (h:Int):=(↑((IntKind.wrap IntKind.u64 (IntKind.wrap IntKind.u64 (h * (6364136223846793005:Int))+(1442695040888963407:Int)) / (2:Int) ^ (33:Int).toNat).toNat &&& (16777215:Int).toNat):Int)
def l01Next_V (code:List Int) (a:Int) (h:Int) (n:Int):Prop :=
 (BrP (decide (n<(1:Int))) (((0:Int)=nxV code a h n)∧(((code=code)∧((a=nxA (code.length) a n)∧((h=nxH h n)∧True)))∧True)) ((((0:Int)≤(33:Int))∧((33:Int)≤(62:Int)))∧(((((0:Int)≤IntKind.wrap IntKind.u64 (IntKind.wrap IntKind.u64 (h * (6364136223846793005:Int))+(1442695040888963407:Int)) / (2:Int) ^ (33:Int).toNat)∧(IntKind.wrap IntKind.u64 (IntKind.wrap IntKind.u64 (h * (6364136223846793005:Int))+(1442695040888963407:Int)) / (2:Int) ^ (33:Int).toNat≤(18446744073709551615:Int)))∧(((0:Int)≤(16777215:Int))∧((16777215:Int)≤(18446744073709551615:Int))))∧((InR (l01Next_c1 h))∧(BrP (decide (a<(↑(code.length):Int))) ((inB a (code.length))∧((InR (code.getD (a.toNat) (0:Int)))∧((InR ((l01Next_c1 h)+code.getD (a.toNat) (0:Int)))∧((InR (a+(1:Int)))∧((n≠(0:Int))∧((Int.tmod ((l01Next_c1 h)+code.getD (a.toNat) (0:Int)) n=nxV code a h n)∧(((code=code)∧((a+(1:Int)=nxA (code.length) a n)∧((IntKind.wrap IntKind.u64 (IntKind.wrap IntKind.u64 (h * (6364136223846793005:Int))+(1442695040888963407:Int))=nxH h n)∧True)))∧True))))))) ((n≠(0:Int))∧((Int.tmod (l01Next_c1 h) n=nxV code a h n)∧(((code=code)∧((a=nxA (code.length) a n)∧((IntKind.wrap IntKind.u64 (IntKind.wrap IntKind.u64 (h * (6364136223846793005:Int))+(1442695040888963407:Int))=nxH h n)∧True)))∧True))))))))
theorem l01Next_vc (code:List Int) (a:Int) (h:Int) (n:Int):runF Try.prog (gam l01Next_G) noWr noAnn Try.f95 (bodyOf Try.f95) [(0,0)] [.box [.ints .u8 (code),.int .i64 (a),.int .u64 (h)],.c (.int .i64 (n))] (l01Next_p code a h n)=l01Next_V code a h n:=by kernel_rfl
theorem l01Next_ok (code:List Int) (a:Int) (h:Int) (n:Int) (hpre:(l01Next_p code a h n).pre):l01Next_V code a h n:=by
 simp only [l01Next_p,l01Next_V,l01Next_c1,BrP_iff,u1,u2,u3,u4,u5,u6,u7,u8,u9,v1,v2,v3,v4,v5,v6,v7,v8,v9,w1,w2,w3,w4,markL_length,inB,InR,room,bdsOk] at hpre ⊢
 obtain ⟨hb,h0,h1⟩:=hpre
 have hr:=nxR_in h
 have hg:=bytes_get hb a.toNat
 have hs:0≤stepH h∧stepH h≤18446744073709551615:=wrapU_in _
 refine ⟨fun hn=>⟨(if_pos hn).symm,(if_pos hn).symm,(if_pos hn).symm⟩,fun hn=>⟨?_,?_⟩⟩
 ·exact ⟨by decide,by decide⟩
 ·have e2:IntKind.u64.wrap (IntKind.u64.wrap (h * 6364136223846793005)+1442695040888963407)=stepH h:=rfl
  have e:(((stepH h / 2 ^ Int.toNat 33).toNat &&& Int.toNat 16777215:Nat):Int)=nxR h:=rfl
  rw [e2,e,show stepH h / 2 ^ Int.toNat 33=stepH h / 8589934592 from rfl]
  refine ⟨by omega,by omega,fun hl=>⟨by omega,by omega,by omega,by omega,by omega,?_,?_,(if_neg hn).symm⟩,fun hl=>⟨by omega,?_,?_,(if_neg hn).symm⟩⟩
  ·rw [nxV,if_neg hn,if_pos hl]
  ·rw [nxA,if_neg hn,if_pos hl]
  ·rw [nxV,if_neg hn,if_neg hl]
  ·rw [nxA,if_neg hn,if_neg hl]
theorem l01Next_fits:Fits Try.prog 95 ⟨[(0,0)],l01Next_ct⟩:=by
 refine ffn (Γ:=gam l01Next_G) gok_nil Try.func95 fun ds p h hp=>?_
 unfold l01Next_ct at h
 split at h
 ·cases h
  exact ⟨noWr,noAnn,by rw [l01Next_vc];exact l01Next_ok _ _ _ _  hp⟩
 ·cases h
def frH (code:List Int):Nat→Int
 | 0=>IntKind.wrap .u64 (6553+IntKind.wrap .u64 (code.length:Int))
 | i+1=>IntKind.wrap .u64 (IntKind.wrap .u64 (IntKind.wrap .u64 (frH code i * 1099511628211)+IntKind.wrap .u64 (code.getD i 0))+11)
def l01From_p (code:List Int):Post:=⟨bytesB code∧code.length≤4096,.c (.bx [.ints .u8 (code),.int .i64 (0),.int .u64 (frH code code.length)]),[]⟩
def l01From_ct:List AD→Option Post
 | [.c (.ints .u8 (code))]=>some (l01From_p code)
 | _=>none
def l01From_ann (code:List Int):Nat→Option Ann
 | 0=>some (Ann.mk ((Nat)) (fun i=>⟨[(0,.c (.ro (.ints .u8 (code)))),(3,.c (.ptr 10 0)),(4,.c (.int .i64 ((i:Int))))],[(10,some (.box [.ro (.ints .u8 (code)),.int .i64 (0),.int .u64 (frH code i)]))]⟩) (fun i=>i≤code.length) (fun i=>code.length - i) (fun _=>noAnn))
 | _=>none
def l01From_G:List (Nat×Ctr):=[]
def l01From_V (code:List Int):Prop :=
 ((∃x0:Nat,((x0≤code.length)∧((code=code)∧(((0:Int)=(↑x0:Int))∧((code=code)∧(((0:Int)=(0:Int))∧(IntKind.wrap IntKind.u64 ((6553:Int)+IntKind.wrap IntKind.u64 (↑(code.length):Int))=frH code x0)))))))∧(∀x1:Nat,((x1≤code.length)→(BrP (decide ((↑x1:Int)<(↑(code.length):Int))) (BrP (decide ((↑x1:Int)<(4096:Int))) ((inB (↑x1:Int) (code.length))∧((InR ((↑x1:Int)+(1:Int)))∧(∃x2:Nat,((x2≤code.length)∧((code.length - x2<code.length - x1)∧((code=code)∧(((↑x1:Int)+(1:Int)=(↑x2:Int))∧((code=code)∧(((0:Int)=(0:Int))∧(IntKind.wrap IntKind.u64 (IntKind.wrap IntKind.u64 (IntKind.wrap IntKind.u64 (frH code x1 * (1099511628211:Int))+IntKind.wrap IntKind.u64 (code.getD ((↑x1:Int).toNat) (0:Int)))+(11:Int))=frH code x2)))))))))) ((([FC.ints IntKind.u8 code,FC.int IntKind.i64 (0:Int),FC.int IntKind.u64 (frH code (code.length))]≠[])∧((code=code)∧(((0:Int)=(0:Int))∧((frH code x1=frH code (code.length))∧True))))∧True)) ((([FC.ints IntKind.u8 code,FC.int IntKind.i64 (0:Int),FC.int IntKind.u64 (frH code (code.length))]≠[])∧((code=code)∧(((0:Int)=(0:Int))∧((frH code x1=frH code (code.length))∧True))))∧True)))))
set_option maxRecDepth 100000 in
theorem l01From_vc (code:List Int):runF Try.prog (gam l01From_G) noWr (l01From_ann code) Try.f47 (bodyOf Try.f47) [] [.c (.ints .u8 (code))] (l01From_p code)=l01From_V code:=by kernel_rfl
theorem l01From_ok (code:List Int) (hpre:(l01From_p code).pre):l01From_V code:=by
 simp only [l01From_p,l01From_V,BrP_iff,u1,u2,u3,u4,u5,u6,u7,u8,u9,v1,v2,v3,v4,v5,v6,v7,v8,v9,w1,w2,w3,w4,markL_length,inB,InR,room,bdsOk] at hpre ⊢
 obtain ⟨hb,h0⟩:=hpre
 refine ⟨⟨0,by omega,rfl,rfl⟩,fun i hi=>⟨fun h=>⟨fun _=>⟨by omega,by omega,i+1,by omega,by omega,by omega,rfl⟩,fun h2=>by omega⟩,fun h=>⟨by simp,by rw [show i=code.length by omega]⟩⟩⟩
theorem l01From_fits:Fits Try.prog 47 ⟨[],l01From_ct⟩:=by
 refine ffn (Γ:=gam l01From_G) gok_nil Try.func47 fun ds p h hp=>?_
 unfold l01From_ct at h
 split at h
 ·cases h
  exact ⟨noWr,l01From_ann _ ,by rw [l01From_vc];exact l01From_ok _  hp⟩
 ·cases h
theorem nxV_in {code:List Int} (hb:bytesB code) (a h:Int) {n:Int} (hn:1≤n):0≤nxV code a h n∧nxV code a h n≤n - 1:=by
 have hr:=nxR_in h
 have hg:=bytes_get hb a.toNat
 rw [nxV,if_neg (by omega)]
 split
 ·exact tmod_in' (by omega) hn
 ·exact tmod_in' (by omega) hn
theorem nxA_in {L:Nat} {a n:Int} (h:0≤a) (hl:a≤(L:Int)):0≤nxA L a n∧nxA L a n≤(L:Int):=by
 unfold nxA
 split
 ·omega
 ·split <;> omega
theorem dp_in {code:List Int} (hb:bytesB code) {a h:Int} (h0:0≤a) (h1:a≤(code.length:Int)):∀i:Nat,(dpS code a h i).1.length=i∧(∀x∈(dpS code a h i).1,0≤x∧x≤(i:Int) - 1)∧0≤(dpS code a h i).2.1∧(dpS code a h i).2.1≤(code.length:Int)
 | 0=>⟨rfl,fun x hx=>(List.not_mem_nil hx).elim,h0,h1⟩
 | i+1=>by
  obtain ⟨e1,e2,e3,e4⟩:=dp_in hb (h:=h) h0 h1 i
  have v:=nxV_in hb (dpS code a h i).2.1 (dpS code a h i).2.2 (n:=(i:Int)+1) (by omega)
  have w:=nxA_in (n:=(i:Int)+1) e3 e4
  refine ⟨?_,fun x hx=>?_,w.1,w.2⟩
  ·show ((dpS code a h i).1.take _++((i:Int)::(dpS code a h i).1.drop _)).length=i+1
   rw [List.length_append,List.length_cons,List.length_take,List.length_drop,e1]
   omega
  ·have hx:x∈(dpS code a h i).1.take (nxV code (dpS code a h i).2.1 (dpS code a h i).2.2 ((i:Int)+1)).toNat++((i:Int)::(dpS code a h i).1.drop (nxV code (dpS code a h i).2.1 (dpS code a h i).2.2 ((i:Int)+1)).toNat):=hx
   rcases List.mem_append.1 hx with hx | hx
   ·have:=e2 x (List.mem_of_mem_take hx);omega
   ·rcases List.mem_cons.1 hx with rfl | hx
    ·omega
    ·have:=e2 x (List.mem_of_mem_drop hx);omega
def l03DrawPerm_p (code:List Int) (a:Int) (h:Int) (n:Int):Post:=⟨bytesB code∧0≤a∧a≤(code.length:Int)∧code.length≤4096∧0≤n∧n≤144,.c (.ints 2 .i64 ((dpS code a h n.toNat).1)),[.bx [.ints .u8 (code),.int .i64 ((dpS code a h n.toNat).2.1),.int .u64 ((dpS code a h n.toNat).2.2)]]⟩
def l03DrawPerm_ct:List AD→Option Post
 | [.box [.ints .u8 (code),.int .i64 (a),.int .u64 (h)],.c (.int .i64 (n))]=>some (l03DrawPerm_p code a h n)
 | _=>none
def l03DrawPerm_ann (code:List Int) (a:Int) (h:Int) (n:Int):Nat→Option Ann
 | 0=>some (Ann.mk ((Nat)) (fun i=>⟨[(0,.c (.ptr 700 0)),(1,.c (.int .i64 (n))),(5,.c (.own (9))),(6,.c (.int .i64 ((i:Int))))],[(700,some (.box [.orig 700 0 (.ints .u8 (code)),.int .i64 ((dpS code a h i).2.1),.int .u64 ((dpS code a h i).2.2)])),(9,some (.ints 2 .i64 ((dpS code a h i).1)))]⟩) (fun i=>(i:Int)≤n) (fun i=>n.toNat - i) (fun _=>noAnn))
 | _=>none
def l03DrawPerm_G:List (Nat×Ctr):=[(95,⟨[(0,0)],l01Next_ct⟩)]
def l03DrawPerm_c1 (code:List Int) (a:Int) (h:Int) (x0:Nat):=(nxV code (((dpS code a h x0).2).1) (((dpS code a h x0).2).2) ((↑x0:Int)+(1:Int)))
def l03DrawPerm_V (code:List Int) (a:Int) (h:Int) (n:Int):Prop :=
 ((∃x0:Nat,(((↑x0:Int)≤n)∧((n=n)∧(((0:Int)=(↑x0:Int))∧((code=code)∧((a=((dpS code a h x0).2).1)∧((h=((dpS code a h x0).2).2)∧([]=(dpS code a h x0).1))))))))∧(∀x1:Nat,(((↑x1:Int)≤n)→(BrP (decide ((↑x1:Int)<n)) ((InR ((↑x1:Int)+(1:Int)))∧((((bytesB code)∧(((0:Int)≤((dpS code a h x1).2).1)∧(((dpS code a h x1).2).1≤(1099511627776:Int))))∧((code=code)∧True))∧((bdsOk (((dpS code a h x1).1).length) (Option.some (l03DrawPerm_c1 code a h x1)) Option.none)∧((room ([(↑x1:Int)].length+(List.take (((dpS code a h x1).1).length - (l03DrawPerm_c1 code a h x1).toNat) (List.drop ((l03DrawPerm_c1 code a h x1).toNat) ((dpS code a h x1).1))).length))∧((bdsOk (((dpS code a h x1).1).length) Option.none (Option.some (l03DrawPerm_c1 code a h x1)))∧((room (([]:List Int).length+(List.take ((l03DrawPerm_c1 code a h x1).toNat) ((dpS code a h x1).1)).length))∧((room (([]++List.take ((l03DrawPerm_c1 code a h x1).toNat) ((dpS code a h x1).1)).length+([(↑x1:Int)]++List.take (((dpS code a h x1).1).length - (l03DrawPerm_c1 code a h x1).toNat) (List.drop ((l03DrawPerm_c1 code a h x1).toNat) ((dpS code a h x1).1))).length))∧((InR ((↑x1:Int)+(1:Int)))∧(∃x2:Nat,(((↑x2:Int)≤n)∧((n.toNat - x2<n.toNat - x1)∧((n=n)∧(((↑x1:Int)+(1:Int)=(↑x2:Int))∧((code=code)∧((nxA (code.length) (((dpS code a h x1).2).1) ((↑x1:Int)+(1:Int))=((dpS code a h x2).2).1)∧((nxH (((dpS code a h x1).2).2) ((↑x1:Int)+(1:Int))=((dpS code a h x2).2).2) ∧
 ([]++List.take ((l03DrawPerm_c1 code a h x1).toNat) ((dpS code a h x1).1)++([(↑x1:Int)]++List.take (((dpS code a h x1).1).length - (l03DrawPerm_c1 code a h x1).toNat) (List.drop ((l03DrawPerm_c1 code a h x1).toNat) ((dpS code a h x1).1)))=(dpS code a h x2).1))))))))))))))))) (((dpS code a h x1).1=(dpS code a h (n.toNat)).1)∧(((code=code)∧((((dpS code a h x1).2).1=((dpS code a h (n.toNat)).2).1)∧((((dpS code a h x1).2).2=((dpS code a h (n.toNat)).2).2)∧True)))∧True))))))
theorem l03DrawPerm_vc (code:List Int) (a:Int) (h:Int) (n:Int):runF Try.prog (gam l03DrawPerm_G) noWr (l03DrawPerm_ann code a h n) Try.f128 (bodyOf Try.f128) [(0,0)] [.box [.ints .u8 (code),.int .i64 (a),.int .u64 (h)],.c (.int .i64 (n))] (l03DrawPerm_p code a h n)=l03DrawPerm_V code a h n:=by kernel_rfl
theorem l03DrawPerm_ok (code:List Int) (a:Int) (h:Int) (n:Int) (hpre:(l03DrawPerm_p code a h n).pre):l03DrawPerm_V code a h n:=by
 simp only [l03DrawPerm_p,l03DrawPerm_V,l03DrawPerm_c1,BrP_iff,u1,u2,u3,u4,u5,u6,u7,u8,u9,v1,v2,v3,v4,v5,v6,v7,v8,v9,w1,w2,w3,w4,markL_length,inB,InR,room,bdsOk] at hpre ⊢
 obtain ⟨hb,h0,h1,h2,h3,h4⟩:=hpre
 refine ⟨⟨0,by omega,rfl,rfl,rfl,rfl⟩,fun i hi=>⟨fun hlt=>?_,fun hge=>?_⟩⟩
 ·obtain ⟨e1,e2,e3,e4⟩:=dp_in hb (h:=h) h0 h1 i
  have v:=nxV_in hb (dpS code a h i).2.1 (dpS code a h i).2.2 (n:=(i:Int)+1) (by omega)
  refine ⟨by omega,⟨hb,e3,by omega⟩,by omega,by omega,by omega,by omega,by omega,by omega,i+1,by omega,by omega,by omega,rfl,rfl,?_⟩
  rw [show ∀k,List.take ((dpS code a h i).1.length - k) (List.drop k (dpS code a h i).1)=List.drop k (dpS code a h i).1 from fun k=>List.take_of_length_le (by simp)]
  rfl
 ·rw [show i=n.toNat by omega];exact ⟨rfl,rfl,rfl⟩
theorem l03DrawPerm_fits:Fits Try.prog 128 ⟨[(0,0)],l03DrawPerm_ct⟩:=by
 refine ffn (Γ:=gam l03DrawPerm_G) (gok_cons l01Next_fits gok_nil) Try.func128 fun ds p h hp=>?_
 unfold l03DrawPerm_ct at h
 split at h
 ·cases h
  exact ⟨noWr,l03DrawPerm_ann _ _ _ _ ,by rw [l03DrawPerm_vc];exact l03DrawPerm_ok _ _ _ _  hp⟩
 ·cases h
end Go.Sx
end
section
open Go Go.Proofs
namespace Go.Sx
set_option linter.unusedSimpArgs false
set_option linter.unusedVariables false
def sqB (n:Int) (t:List (List Int)):Prop:=(t.length:Int)=n∧∀i,i<t.length→((t.getD i []).length:Int)=n∧∀j,j<t.length→0≤(t.getD i []).getD j 0∧(t.getD i []).getD j 0≤n - 1
def imC (t:List (List Int)) (p:List Int) (x:Nat):Nat→List (List Int)→List (List Int)
 | 0,o=>o
 | y+1,o=>let o':=imC t p x y o
  o'.set (p.getD x 0).toNat ((o'.getD (p.getD x 0).toNat []).set (p.getD y 0).toNat (p.getD ((t.getD x []).getD y 0).toNat 0))
def imL (t:List (List Int)) (p:List Int):Nat→List (List Int)
 | 0=>t
 | x+1=>imC t p x t.length (imL t p x)
theorem sq_set {n:Int} {o:List (List Int)} (h:sqB n o) {k j:Nat} (hk:(k:Int)<n) (hj:(j:Int)<n) {v:Int} (h0:0≤v) (h1:v≤n - 1):sqB n (o.set k ((o.getD k []).set j v)):=by
 refine ⟨by rw [List.length_set];exact h.1,fun i hi=>?_⟩
 rw [List.length_set] at hi
 have e:=h.2 i hi
 by_cases hik:k=i
 ·subst hik
  have:(o.set k ((o.getD k []).set j v)).getD k []=(o.getD k []).set j v:=by
   rw [List.getD_eq_getElem?_getD,List.getElem?_set_self hi];rfl
  rw [this,List.length_set,List.length_set]
  refine ⟨e.1,fun x hx=>?_⟩
  by_cases hxj:j=x
  ·subst hxj
   have:((o.getD k []).set j v).getD j 0=v:=by
    rw [List.getD_eq_getElem?_getD,List.getElem?_set_self (by omega)];rfl
   rw [this];exact ⟨h0,h1⟩
  ·have:((o.getD k []).set j v).getD x 0=(o.getD k []).getD x 0:=by
    rw [List.getD_eq_getElem?_getD,List.getElem?_set_ne hxj,←List.getD_eq_getElem?_getD]
   rw [this];exact e.2 x hx
 ·have:(o.set k ((o.getD k []).set j v)).getD i []=o.getD i []:=by
   rw [List.getD_eq_getElem?_getD,List.getElem?_set_ne hik,←List.getD_eq_getElem?_getD]
  rw [this,List.length_set];exact e
section
variable {t:List (List Int)} {p:List Int} (ht:sqB (t.length:Int) t) (hp:p.length=t.length) (hq:∀i,i<p.length→0≤p.getD i 0∧p.getD i 0≤(t.length:Int) - 1)
include ht hp hq
theorem imC_sq (x:Nat) (hx:x<t.length):∀(y:Nat),y≤t.length→∀o,sqB (t.length:Int) o→sqB (t.length:Int) (imC t p x y o)
 | 0,_,o,h=>h
 | y+1,hy,o,h=>by
  have e:=imC_sq x hx y (by omega) o h
  have q1:=hq x (by omega)
  have q2:=hq y (by omega)
  have t1:=(ht.2 x hx).2 y (by omega)
  have q3:=hq ((t.getD x []).getD y 0).toNat (by omega)
  exact sq_set e (by omega) (by omega) q3.1 q3.2
theorem imL_sq:∀(x:Nat),x≤t.length→sqB (t.length:Int) (imL t p x)
 | 0,_=>ht
 | x+1,hx=>imC_sq ht hp hq x (by omega) _ (Nat.le_refl _) _ (imL_sq x (by omega))
end
def l03Image_p (t:List (List Int)) (p:List Int):Post:=⟨roomR t∧t.length≤144∧sqB (t.length:Int) t∧p.length=t.length∧(∀i,i<p.length→0≤p.getD i 0∧p.getD i 0≤(t.length:Int) - 1),.c (.rows 22 2 .i64 (imL t p t.length)),[]⟩
def l03Image_ct:List AD→Option Post
 | [.c (.rows .i64 (t)),.c (.ints .i64 (p))]=>some (l03Image_p t p)
 | _=>none
def l03Image_ann (t:List (List Int)) (p:List Int):Nat→Option Ann
 | 0=>some (Ann.mk ((Nat)) (fun i=>⟨[(0,.c (.ro (.rows .i64 (t)))),(1,.c (.ro (.ints .i64 (p)))),(5,.c (.own (9))),(6,.c (.int .i64 ((i:Int))))],[(9,some (.rows 0 22 2 .i64 (imL t p i)))]⟩) (fun i=>i≤t.length) (fun i=>t.length - i) (fun i=>fun b_=>match b_ with | 2=>some (Ann.mk ((Nat)) (fun j=>⟨[(0,.c (.ro (.rows .i64 (t)))),(1,.c (.ro (.ints .i64 (p)))),(5,.c (.own (9))),(6,.c (.int .i64 ((i:Int)))),(7,.c (.int .i64 ((j:Int))))],[(9,some (.rows 0 22 2 .i64 (imC t p i j (imL t p i))))]⟩) (fun j=>j≤t.length∧i<t.length) (fun j=>t.length - j) (fun _=>noAnn)) | _=>none))
 | _=>none
def l03Image_G:List (Nat×Ctr):=[(40,⟨[],l01Own2_ct⟩)]
def l03Image_V (t:List (List Int)) (p:List Int):Prop :=
 (((roomR t)∧True)∧((∃x0:Nat,((x0≤t.length)∧((t=t)∧((p=p)∧(((0:Int)=(↑x0:Int))∧(t=imL t p x0))))))∧(∀x1:Nat,((x1≤t.length)→(BrP (decide ((↑x1:Int)<(↑(t.length):Int))) ((∃x2:Nat,(((x2≤t.length)∧(x1<t.length))∧((t=t)∧((p=p)∧(((↑x1:Int)=(↑x1:Int))∧(((0:Int)=(↑x2:Int))∧(imL t p x1=imC t p x1 x2 (imL t p x1))))))))∧(∀x3:Nat,(((x3≤t.length)∧(x1<t.length))→(BrP (decide ((↑x3:Int)<(↑(t.length):Int))) ((inB (↑x1:Int) (p.length))∧((inB (p.getD ((↑x1:Int).toNat) (0:Int)) ((imC t p x1 x3 (imL t p x1)).length))∧((inB (↑x3:Int) (p.length))∧((inB (↑x1:Int) (t.length))∧((inB (↑x3:Int) ((t.getD ((↑x1:Int).toNat) []).length))∧((inB ((List.getD t ((↑x1:Int).toNat) []).getD ((↑x3:Int).toNat) (0:Int)) (p.length))∧((inB (p.getD ((↑x3:Int).toNat) (0:Int)) (((imC t p x1 x3 (imL t p x1)).getD ((p.getD ((↑x1:Int).toNat) (0:Int)).toNat) []).length))∧((InR ((↑x3:Int)+(1:Int)))∧(∃x4:Nat,(((x4≤t.length)∧(x1<t.length))∧((t.length - x4<t.length - x3)∧((t=t)∧((p=p)∧(((↑x1:Int)=(↑x1:Int))∧(((↑x3:Int)+(1:Int)=(↑x4:Int))∧(List.set (imC t p x1 x3 (imL t p x1)) ((p.getD ((↑x1:Int).toNat) (0:Int)).toNat) (List.set ((imC t p x1 x3 (imL t p x1)).getD ((p.getD ((↑x1:Int).toNat) (0:Int)).toNat) []) ((p.getD ((↑x3:Int).toNat) (0:Int)).toNat) (p.getD (((List.getD t ((↑x1:Int).toNat) []).getD ((↑x3:Int).toNat) (0:Int)).toNat) (0:Int)))=imC t p x1 x4 (imL t p x1))))))))))))))))) ((InR ((↑x1:Int)+(1:Int)))∧(∃x5:Nat,((x5≤t.length) ∧
 ((t.length - x5<t.length - x1)∧((t=t)∧((p=p)∧(((↑x1:Int)+(1:Int)=(↑x5:Int))∧(imC t p x1 x3 (imL t p x1)=imL t p x5)))))))))))) ((imL t p x1=imL t p (t.length))∧True))))))
theorem l03Image_vc (t:List (List Int)) (p:List Int):runF Try.prog (gam l03Image_G) noWr (l03Image_ann t p) Try.f129 (bodyOf Try.f129) [] [.c (.rows .i64 (t)),.c (.ints .i64 (p))] (l03Image_p t p)=l03Image_V t p:=by kernel_rfl
theorem l03Image_ok (t:List (List Int)) (p:List Int) (hpre:(l03Image_p t p).pre):l03Image_V t p:=by
 simp only [l03Image_p,l03Image_V,BrP_iff,u1,u2,u3,u4,u5,u6,u7,u8,u9,v1,v2,v3,v4,v5,v6,v7,v8,v9,w1,w2,w3,w4,markL_length,inB,InR,room,bdsOk] at hpre ⊢
 obtain ⟨r0,h0,h1,h2,h3⟩:=hpre
 have q:=fun x (hx:x<t.length)=>h3 x (by omega)
 have I:=imL_sq h1 (by omega) h3
 refine ⟨r0,⟨0,by omega,rfl,rfl⟩,fun i hi=>⟨fun h=>⟨⟨0,⟨by omega,by omega⟩,rfl,rfl⟩,fun j ⟨hj,_⟩=>⟨fun h4=>?_,fun h4=>?_⟩⟩,fun h=>by rw [show i=t.length by omega]⟩⟩
 ·have C:=imC_sq h1 (by omega) h3 i (by omega) j (by omega) _ (I i (by omega))
  have q1:=q i (by omega)
  have q2:=q j (by omega)
  have t1:=h1.2 i (by omega)
  have t2:=t1.2 j (by omega)
  have c1:=C.1
  have c2:=(C.2 (p.getD i 0).toNat (by omega)).1
  exact ⟨by omega,by omega,by omega,by omega,by omega,by omega,by omega,by omega,j+1,by omega,by omega,by omega,rfl⟩
 ·exact ⟨by omega,i+1,by omega,by omega,by omega,by rw [show j=t.length by omega];rfl⟩
theorem l03Image_fits:Fits Try.prog 129 ⟨[],l03Image_ct⟩:=by
 refine ffn (Γ:=gam l03Image_G) (gok_cons l01Own2_fits gok_nil) Try.func129 fun ds p h hp=>?_
 unfold l03Image_ct at h
 split at h
 ·cases h
  exact ⟨noWr,l03Image_ann _ _ ,by rw [l03Image_vc];exact l03Image_ok _ _  hp⟩
 ·cases h
end Go.Sx
end
section
open Go Go.Proofs
namespace Go.Sx
set_option linter.unusedSimpArgs false
set_option linter.unusedVariables false
def bkN (p:List Int):Nat→List Int
 | 0=>List.replicate p.length 0
 | i+1=>(bkN p i).set (p.getD i 0).toNat (i:Int)
def bkG (p:List Int):List Int:=bkN p p.length
def thL (p q:List Int):List Int:=p.map fun x=>q.getD x.toNat 0
def inQ (n:Nat) (p:List Int):Prop:=∀i,i<p.length→0≤p.getD i 0∧p.getD i 0<(n:Int)
def l01ThenG_p (p:List Int) (q:List Int):Post:=⟨room p.length∧inQ q.length p,.c (.ints 2 .i64 (thL p q)),[]⟩
def l01ThenG_ct:List AD→Option Post
 | [.c (.ints .i64 (p)),.c (.ints .i64 (q))]=>some (l01ThenG_p p q)
 | _=>none
def l01ThenG_ann (p:List Int) (q:List Int):Nat→Option Ann
 | 0=>some (Ann.mk ((Nat)) (fun i=>⟨[(0,.c (.ro (.ints .i64 (p)))),(1,.c (.ro (.ints .i64 (q)))),(5,.c (.own (10))),(6,.c (.int .i64 ((i:Int))))],[(10,some (.ints 2 .i64 (thL (p.take i) q)))]⟩) (fun i=>i≤p.length) (fun i=>p.length - i) (fun _=>noAnn))
 | _=>none
def l01ThenG_G:List (Nat×Ctr):=[]
def l01ThenG_V (p:List Int) (q:List Int):Prop :=
 ((∃x0:Nat,((x0≤p.length)∧((p=p)∧((q=q)∧(((0:Int)=(↑x0:Int))∧([]=thL (List.take x0 p) q))))))∧(∀x1:Nat,((x1≤p.length)→(BrP (decide ((↑x1:Int)<(↑(p.length):Int))) ((inB (↑x1:Int) (p.length))∧((inB (p.getD ((↑x1:Int).toNat) (0:Int)) (q.length))∧((room ((thL (List.take x1 p) q).length+[q.getD ((p.getD ((↑x1:Int).toNat) (0:Int)).toNat) (0:Int)].length))∧((InR ((↑x1:Int)+(1:Int)))∧(∃x2:Nat,((x2≤p.length)∧((p.length - x2<p.length - x1)∧((p=p)∧((q=q)∧(((↑x1:Int)+(1:Int)=(↑x2:Int))∧(thL (List.take x1 p) q++[q.getD ((p.getD ((↑x1:Int).toNat) (0:Int)).toNat) (0:Int)]=thL (List.take x2 p) q))))))))))) ((thL (List.take x1 p) q=thL p q)∧True)))))
theorem l01ThenG_vc (p:List Int) (q:List Int):runF Try.prog (gam l01ThenG_G) noWr (l01ThenG_ann p q) Try.f61 (bodyOf Try.f61) [] [.c (.ints .i64 (p)),.c (.ints .i64 (q))] (l01ThenG_p p q)=l01ThenG_V p q:=by kernel_rfl
theorem l01ThenG_ok (p:List Int) (q:List Int) (hpre:(l01ThenG_p p q).pre):l01ThenG_V p q:=by
 simp only [l01ThenG_p,l01ThenG_V,BrP_iff,u1,u2,u3,u4,u5,u6,u7,u8,u9,v1,v2,v3,v4,v5,v6,v7,v8,v9,w1,w2,w3,w4,markL_length,inB,InR,room,bdsOk] at hpre ⊢
 obtain ⟨h1,h2⟩:=hpre
 refine ⟨⟨0,by omega,rfl,rfl⟩,fun i hi=>⟨fun h=>?_,fun h=>?_⟩⟩
 ·have hr:=h2 i (by omega)
  have hl:(thL (p.take i) q).length=i:=by rw [thL,List.length_map,List.length_take];omega
  refine ⟨by omega,by omega,by omega,by omega,i+1,by omega,by omega,by omega,?_⟩
  rw [←take_snoc p 0 i (by omega),thL,thL,List.map_append];rfl
 ·rw [List.take_of_length_le (by omega)]
theorem l01ThenG_fits:Fits Try.prog 61 ⟨[],l01ThenG_ct⟩:=by
 refine ffn (Γ:=gam l01ThenG_G) gok_nil Try.func61 fun ds p h hp=>?_
 unfold l01ThenG_ct at h
 split at h
 ·cases h
  exact ⟨noWr,l01ThenG_ann _ _ ,by rw [l01ThenG_vc];exact l01ThenG_ok _ _  hp⟩
 ·cases h
end Go.Sx
end
section
open Go Go.Proofs
namespace Go.Sx
set_option linter.unusedSimpArgs false
set_option linter.unusedVariables false
abbrev Dr:=List (List Int)×Int×Int
def fIx (z:List Int):List (List Int)→Nat
 | []=>0
 | a::r=>if a=z then 0 else fIx z r+1
def cjZ (A:List (List Int)) (x y:Nat):List Int:=thL (thL (bkG (A.getD x [])) (A.getD y [])) (A.getD x [])
structure CjOk (A:List (List Int)):Prop where
 le:A.length≤6
 ge:1≤A.length
 len:∀x,x<A.length→(A.getD x []).length=3
 el:∀x,x<A.length→inQ 3 (A.getD x [])
 at_:∀x y,x<A.length→y<A.length→fIx (cjZ A x y) A<A.length
 th:∀x y,x<A.length→y<A.length→(thL (bkG (A.getD x [])) (A.getD y [])).length=3∧inQ 3 (thL (bkG (A.getD x [])) (A.getD y []))
 bk:∀x,x<A.length→(bkG (A.getD x [])).length=3∧inQ 3 (bkG (A.getD x []))
 z:∀x y,x<A.length→y<A.length→(cjZ A x y).length=3
end Go.Sx
end
section
open Go Go.Proofs
namespace Go.Sx
set_option linter.unusedSimpArgs false
set_option linter.unusedVariables false
theorem dp_get {code:List Int} (hb:bytesB code) {a h:Int} (h0:0≤a) (h1:a≤(code.length:Int)) (n:Nat):(dpS code a h n).1.length=n∧∀i,i<(dpS code a h n).1.length→0≤(dpS code a h n).1.getD i 0∧(dpS code a h n).1.getD i 0≤(n:Int) - 1:=by
 have D:=dp_in hb (h:=h) h0 h1 n
 refine ⟨D.1,fun i hi=>?_⟩
 have:=D.2.1 _ (List.getElem_mem hi)
 rwa [←getD_lt _ 0 i hi] at this
theorem sq_room {n:Int} {t:List (List Int)} (h:sqB n t) (h1:n≤144):roomR t:=by
 have e:=h.1
 refine ⟨by omega,fun r hr=>?_⟩
 obtain ⟨i,hi,rfl⟩:=List.mem_iff_getElem.1 hr
 have:=(h.2 i hi).1
 rw [getD_lt t [] i hi] at this
 omega
end Go.Sx
end
