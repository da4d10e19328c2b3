/- Draw DrawT GrowP DrawR DrawY -/
import Derived.Test.YtbppifmljnnogaaGreatLists
import Derived.Test.YtbppifmljnnogaaGreatTable
import Derived.Test.YtbppifmljnnogaaGreatOwn2
import Derived.Test.YtbppifmljnnogaaGreatRack
import Derived.Test.YtbppifmljnnogaaGreatCmp
section
open Go Go.Proofs
namespace Go.Sx
set_option linter.unusedSimpArgs false
set_option linter.unusedVariables false
def bytesB (code:List Int):Prop:=∀x∈code,0≤x∧x≤255
theorem bytes_get {code:List Int} (h:bytesB code) (i:Nat):0≤code.getD i 0∧code.getD i 0≤255:=by
 by_cases hi:i<code.length
 ·rw [getD_lt code 0 i hi];exact h _ (List.getElem_mem hi)
 ·rw [List.getD_eq_getElem?_getD,List.getElem?_eq_none (by omega)];decide
def stepH (h:Int):Int:=IntKind.wrap .u64 (IntKind.wrap .u64 (h * 6364136223846793005)+1442695040888963407)
def nxH (h n:Int):Int:=if n<1 then h else stepH h
def nxA (L:Nat) (a n:Int):Int:=if n<1 then a else if a<(L:Int) then a+1 else a
def nxR (h:Int):Int:=(((stepH h / 2 ^ 33).toNat &&& 16777215:Nat):Int)
def nxV (code:List Int) (a h n:Int):Int:=if n<1 then 0 else if a<(code.length:Int) then (nxR h+code.getD a.toNat 0).tmod n else (nxR h).tmod n
theorem wrapU_in (x:Int):0≤IntKind.wrap .u64 x∧IntKind.wrap .u64 x≤18446744073709551615:=by
 have:IntKind.wrap .u64 x=x % 18446744073709551616:=rfl
 omega
theorem tmod_in' {a m:Int} (h:0≤a) (hm:1≤m):0≤a.tmod m∧a.tmod m≤m - 1:=by
 rw [Int.tmod_eq_emod_of_nonneg h]
 have h1:=Int.emod_nonneg a (show m≠0 by omega)
 have h2:=Int.emod_lt_of_pos a (show 0<m by omega)
 omega
def dpS (code:List Int) (a h:Int):Nat→List Int×Int×Int
 | 0=>([],a,h)
 | i+1=>let s:=dpS code a h i
  let k:=(nxV code s.2.1 s.2.2 ((i:Int)+1)).toNat
  (s.1.take k++((i:Int)::s.1.drop k),nxA code.length s.2.1 ((i:Int)+1),nxH s.2.2 ((i:Int)+1))
def rlH (code:List Int) (s:Int):Nat→Int
 | 0=>IntKind.wrap .u64 (IntKind.wrap .u64 (s * 5507)+IntKind.wrap .u64 (code.length:Int))
 | i+1=>IntKind.wrap .u64 (IntKind.wrap .u64 (IntKind.wrap .u64 (rlH code s i * 1099511628211)+IntKind.wrap .u64 (code.getD i 0))+5)
theorem nxR_in (h:Int):0≤nxR h∧nxR h≤16777215:=by
 have:((stepH h / 2 ^ 33).toNat &&& 16777215)≤16777215:=Nat.and_le_right
 unfold nxR
 omega
def l01Next_p (code:List Int) (a:Int) (h:Int) (n:Int):Post:=⟨bytesB code∧0≤a∧a≤1099511627776,.c (.int .i64 (nxV code a h n)),[.bx [.ints .u8 (code),.int .i64 (nxA code.length a n),.int .u64 (nxH h n)]]⟩
def l01Next_ct:List AD→Option Post
 | [.box [.ints .u8 (code),.int .i64 (a),.int .u64 (h)],.c (.int .i64 (n))]=>some (l01Next_p code a h n)
 | _=>none
def l01Next_G:List (Nat×Ctr):=[]
def l01Next_c1 (h:Int):=(↑((IntKind.wrap IntKind.u64 (IntKind.wrap IntKind.u64 (h * (6364136223846793005:Int))+(1442695040888963407:Int)) / (2:Int) ^ (33:Int).toNat).toNat &&& (16777215:Int).toNat):Int)
def l01Next_V (code:List Int) (a:Int) (h:Int) (n:Int):Prop :=
 (BrP (decide (n<(1:Int))) (((0:Int)=nxV code a h n)∧(((code=code)∧((a=nxA (code.length) a n)∧((h=nxH h n)∧True)))∧True)) ((((0:Int)≤(33:Int))∧((33:Int)≤(62:Int)))∧(((((0:Int)≤IntKind.wrap IntKind.u64 (IntKind.wrap IntKind.u64 (h * (6364136223846793005:Int))+(1442695040888963407:Int)) / (2:Int) ^ (33:Int).toNat)∧(IntKind.wrap IntKind.u64 (IntKind.wrap IntKind.u64 (h * (6364136223846793005:Int))+(1442695040888963407:Int)) / (2:Int) ^ (33:Int).toNat≤(18446744073709551615:Int)))∧(((0:Int)≤(16777215:Int))∧((16777215:Int)≤(18446744073709551615:Int))))∧((InR (l01Next_c1 h))∧(BrP (decide (a<(↑(code.length):Int))) ((inB a (code.length))∧((InR (code.getD (a.toNat) (0:Int)))∧((InR ((l01Next_c1 h)+code.getD (a.toNat) (0:Int)))∧((InR (a+(1:Int)))∧((n≠(0:Int))∧((Int.tmod ((l01Next_c1 h)+code.getD (a.toNat) (0:Int)) n=nxV code a h n)∧(((code=code)∧((a+(1:Int)=nxA (code.length) a n)∧((IntKind.wrap IntKind.u64 (IntKind.wrap IntKind.u64 (h * (6364136223846793005:Int))+(1442695040888963407:Int))=nxH h n)∧True)))∧True))))))) ((n≠(0:Int))∧((Int.tmod (l01Next_c1 h) n=nxV code a h n)∧(((code=code)∧((a=nxA (code.length) a n)∧((IntKind.wrap IntKind.u64 (IntKind.wrap IntKind.u64 (h * (6364136223846793005:Int))+(1442695040888963407:Int))=nxH h n)∧True)))∧True))))))))
theorem l01Next_vc (code:List Int) (a:Int) (h:Int) (n:Int):runF Tryz.prog (gam l01Next_G) noWr noAnn Tryz.f47 (bodyOf Tryz.f47) [(0,0)] [.box [.ints .u8 (code),.int .i64 (a),.int .u64 (h)],.c (.int .i64 (n))] (l01Next_p code a h n)=l01Next_V code a h n:=by kernel_rfl
theorem l01Next_ok (code:List Int) (a:Int) (h:Int) (n:Int) (hpre:(l01Next_p code a h n).pre):l01Next_V code a h n:=by
 simp only [l01Next_p,l01Next_V,l01Next_c1,BrP_iff,u1,u2,u3,u4,u5,u6,u7,u8,u9,v1,v2,v3,v4,v5,v6,v7,v8,v9,w1,w2,w3,w4,markL_length,inB,InR,room,bdsOk] at hpre ⊢
 obtain ⟨hb,h0,h1⟩:=hpre
 have hr:=nxR_in h
 have hg:=bytes_get hb a.toNat
 have hs:0≤stepH h∧stepH h≤18446744073709551615:=wrapU_in _
 refine ⟨fun hn=>⟨(if_pos hn).symm,(if_pos hn).symm,(if_pos hn).symm⟩,fun hn=>⟨?_,?_⟩⟩
 ·exact ⟨by decide,by decide⟩
 ·have e2:IntKind.u64.wrap (IntKind.u64.wrap (h * 6364136223846793005)+1442695040888963407)=stepH h:=rfl
  have e:(((stepH h / 2 ^ Int.toNat 33).toNat &&& Int.toNat 16777215:Nat):Int)=nxR h:=rfl
  rw [e2,e,show stepH h / 2 ^ Int.toNat 33=stepH h / 8589934592 from rfl]
  refine ⟨by omega,by omega,fun hl=>⟨by omega,by omega,by omega,by omega,by omega,?_,?_,(if_neg hn).symm⟩,fun hl=>⟨by omega,?_,?_,(if_neg hn).symm⟩⟩
  ·rw [nxV,if_neg hn,if_pos hl]
  ·rw [nxA,if_neg hn,if_pos hl]
  ·rw [nxV,if_neg hn,if_neg hl]
  ·rw [nxA,if_neg hn,if_neg hl]
theorem l01Next_fits:Fits Tryz.prog 47 ⟨[(0,0)],l01Next_ct⟩:=by
 refine ffn (Γ:=gam l01Next_G) gok_nil Tryz.func47 fun ds p h hp=>?_
 unfold l01Next_ct at h
 split at h
 ·cases h
  exact ⟨noWr,noAnn,by rw [l01Next_vc];exact l01Next_ok _ _ _ _  hp⟩
 ·cases h
def frH (code:List Int):Nat→Int
 | 0=>IntKind.wrap .u64 (6553+IntKind.wrap .u64 (code.length:Int))
 | i+1=>IntKind.wrap .u64 (IntKind.wrap .u64 (IntKind.wrap .u64 (frH code i * 1099511628211)+IntKind.wrap .u64 (code.getD i 0))+11)
def l01From_p (code:List Int):Post:=⟨bytesB code∧code.length≤4096,.c (.bx [.ints .u8 (code),.int .i64 (0),.int .u64 (frH code code.length)]),[]⟩
def l01From_ct:List AD→Option Post
 | [.c (.ints .u8 (code))]=>some (l01From_p code)
 | _=>none
def l01From_ann (code:List Int):Nat→Option Ann
 | 0=>some (Ann.mk ((Nat)) (fun i=>⟨[(0,.c (.ro (.ints .u8 (code)))),(3,.c (.ptr 10 0)),(4,.c (.int .i64 ((i:Int))))],[(10,some (.box [.ro (.ints .u8 (code)),.int .i64 (0),.int .u64 (frH code i)]))]⟩) (fun i=>i≤code.length) (fun i=>code.length - i) (fun _=>noAnn))
 | _=>none
def l01From_G:List (Nat×Ctr):=[]
def l01From_V (code:List Int):Prop :=
 ((∃x0:Nat,((x0≤code.length)∧((code=code)∧(((0:Int)=(↑x0:Int))∧((code=code)∧(((0:Int)=(0:Int))∧(IntKind.wrap IntKind.u64 ((6553:Int)+IntKind.wrap IntKind.u64 (↑(code.length):Int))=frH code x0)))))))∧(∀x1:Nat,((x1≤code.length)→(BrP (decide ((↑x1:Int)<(↑(code.length):Int))) (BrP (decide ((↑x1:Int)<(4096:Int))) ((inB (↑x1:Int) (code.length))∧((InR ((↑x1:Int)+(1:Int)))∧(∃x2:Nat,((x2≤code.length)∧((code.length - x2<code.length - x1)∧((code=code)∧(((↑x1:Int)+(1:Int)=(↑x2:Int))∧((code=code)∧(((0:Int)=(0:Int))∧(IntKind.wrap IntKind.u64 (IntKind.wrap IntKind.u64 (IntKind.wrap IntKind.u64 (frH code x1 * (1099511628211:Int))+IntKind.wrap IntKind.u64 (code.getD ((↑x1:Int).toNat) (0:Int)))+(11:Int))=frH code x2)))))))))) ((([FC.ints IntKind.u8 code,FC.int IntKind.i64 (0:Int),FC.int IntKind.u64 (frH code (code.length))]≠[])∧((code=code)∧(((0:Int)=(0:Int))∧((frH code x1=frH code (code.length))∧True))))∧True)) ((([FC.ints IntKind.u8 code,FC.int IntKind.i64 (0:Int),FC.int IntKind.u64 (frH code (code.length))]≠[])∧((code=code)∧(((0:Int)=(0:Int))∧((frH code x1=frH code (code.length))∧True))))∧True)))))
set_option maxRecDepth 100000 in
theorem l01From_vc (code:List Int):runF Tryz.prog (gam l01From_G) noWr (l01From_ann code) Tryz.f34 (bodyOf Tryz.f34) [] [.c (.ints .u8 (code))] (l01From_p code)=l01From_V code:=by kernel_rfl
theorem l01From_ok (code:List Int) (hpre:(l01From_p code).pre):l01From_V code:=by
 simp only [l01From_p,l01From_V,BrP_iff,u1,u2,u3,u4,u5,u6,u7,u8,u9,v1,v2,v3,v4,v5,v6,v7,v8,v9,w1,w2,w3,w4,markL_length,inB,InR,room,bdsOk] at hpre ⊢
 obtain ⟨hb,h0⟩:=hpre
 refine ⟨⟨0,by omega,rfl,rfl⟩,fun i hi=>⟨fun h=>⟨fun _=>⟨by omega,by omega,i+1,by omega,by omega,by omega,rfl⟩,fun h2=>by omega⟩,fun h=>⟨by simp,by rw [show i=code.length by omega]⟩⟩⟩
theorem l01From_fits:Fits Tryz.prog 34 ⟨[],l01From_ct⟩:=by
 refine ffn (Γ:=gam l01From_G) gok_nil Tryz.func34 fun ds p h hp=>?_
 unfold l01From_ct at h
 split at h
 ·cases h
  exact ⟨noWr,l01From_ann _ ,by rw [l01From_vc];exact l01From_ok _  hp⟩
 ·cases h
theorem nxV_in {code:List Int} (hb:bytesB code) (a h:Int) {n:Int} (hn:1≤n):0≤nxV code a h n∧nxV code a h n≤n - 1:=by
 have hr:=nxR_in h
 have hg:=bytes_get hb a.toNat
 rw [nxV,if_neg (by omega)]
 split
 ·exact tmod_in' (by omega) hn
 ·exact tmod_in' (by omega) hn
theorem nxA_in {L:Nat} {a n:Int} (h:0≤a) (hl:a≤(L:Int)):0≤nxA L a n∧nxA L a n≤(L:Int):=by
 unfold nxA
 split
 ·omega
 ·split <;> omega
def l01Pick_p (code:List Int) (a:Int) (h:Int) (l:List Int):Post:=⟨bytesB code∧0≤a∧a≤1099511627776∧1≤l.length∧l.length≤100,.c (.int .i64 (l.getD (nxV code a h (l.length:Int)).toNat 0)),[.bx [.ints .u8 (code),.int .i64 (nxA code.length a (l.length:Int)),.int .u64 (nxH h (l.length:Int))]]⟩
def l01Pick_ct:List AD→Option Post
 | [.box [.ints .u8 (code),.int .i64 (a),.int .u64 (h)],.c (.ints .i64 (l))]=>some (l01Pick_p code a h l)
 | _=>none
def l01Pick_G:List (Nat×Ctr):=[(47,⟨[(0,0)],l01Next_ct⟩)]
def l01Pick_V (code:List Int) (a:Int) (h:Int) (l:List Int):Prop :=
 ((((bytesB code)∧(((0:Int)≤a)∧(a≤(1099511627776:Int))))∧((code=code)∧True))∧((inB (nxV code a h (↑(l.length):Int)) (l.length))∧((l.getD ((nxV code a h (↑(l.length):Int)).toNat) (0:Int)=l.getD ((nxV code a h (↑(l.length):Int)).toNat) (0:Int))∧(((code=code)∧((nxA (code.length) a (↑(l.length):Int)=nxA (code.length) a (↑(l.length):Int))∧((nxH h (↑(l.length):Int)=nxH h (↑(l.length):Int))∧True)))∧True))))
theorem l01Pick_vc (code:List Int) (a:Int) (h:Int) (l:List Int):runF Tryz.prog (gam l01Pick_G) noWr noAnn Tryz.f59 (bodyOf Tryz.f59) [(0,0)] [.box [.ints .u8 (code),.int .i64 (a),.int .u64 (h)],.c (.ints .i64 (l))] (l01Pick_p code a h l)=l01Pick_V code a h l:=by kernel_rfl
theorem l01Pick_ok (code:List Int) (a:Int) (h:Int) (l:List Int) (hpre:(l01Pick_p code a h l).pre):l01Pick_V code a h l:=by
 simp only [l01Pick_p,l01Pick_V,BrP_iff,u1,u2,u3,u4,u5,u6,u7,u8,u9,v1,v2,v3,v4,v5,v6,v7,v8,v9,w1,w2,w3,w4,markL_length,inB,InR,room,bdsOk] at hpre ⊢
 obtain ⟨hb,h0,h1,h2,h3⟩:=hpre
 have:=nxV_in hb a h (n:=(l.length:Int)) (by omega)
 exact ⟨⟨hb,h0,h1⟩,by omega,by omega⟩
theorem l01Pick_fits:Fits Tryz.prog 59 ⟨[(0,0)],l01Pick_ct⟩:=by
 refine ffn (Γ:=gam l01Pick_G) (gok_cons l01Next_fits gok_nil) Tryz.func59 fun ds p h hp=>?_
 unfold l01Pick_ct at h
 split at h
 ·cases h
  exact ⟨noWr,noAnn,by rw [l01Pick_vc];exact l01Pick_ok _ _ _ _  hp⟩
 ·cases h
theorem dp_in {code:List Int} (hb:bytesB code) {a h:Int} (h0:0≤a) (h1:a≤(code.length:Int)):∀i:Nat,(dpS code a h i).1.length=i∧(∀x∈(dpS code a h i).1,0≤x∧x≤(i:Int) - 1)∧0≤(dpS code a h i).2.1∧(dpS code a h i).2.1≤(code.length:Int)
 | 0=>⟨rfl,fun x hx=>(List.not_mem_nil hx).elim,h0,h1⟩
 | i+1=>by
  obtain ⟨e1,e2,e3,e4⟩:=dp_in hb (h:=h) h0 h1 i
  have v:=nxV_in hb (dpS code a h i).2.1 (dpS code a h i).2.2 (n:=(i:Int)+1) (by omega)
  have w:=nxA_in (n:=(i:Int)+1) e3 e4
  refine ⟨?_,fun x hx=>?_,w.1,w.2⟩
  ·show ((dpS code a h i).1.take _++((i:Int)::(dpS code a h i).1.drop _)).length=i+1
   rw [List.length_append,List.length_cons,List.length_take,List.length_drop,e1]
   omega
  ·have hx:x∈(dpS code a h i).1.take (nxV code (dpS code a h i).2.1 (dpS code a h i).2.2 ((i:Int)+1)).toNat++((i:Int)::(dpS code a h i).1.drop (nxV code (dpS code a h i).2.1 (dpS code a h i).2.2 ((i:Int)+1)).toNat):=hx
   rcases List.mem_append.1 hx with hx | hx
   ·have:=e2 x (List.mem_of_mem_take hx);omega
   ·rcases List.mem_cons.1 hx with rfl | hx
    ·omega
    ·have:=e2 x (List.mem_of_mem_drop hx);omega
def l03DrawPerm_p (code:List Int) (a:Int) (h:Int) (n:Int):Post:=⟨bytesB code∧0≤a∧a≤(code.length:Int)∧code.length≤4096∧0≤n∧n≤144,.c (.ints 2 .i64 ((dpS code a h n.toNat).1)),[.bx [.ints .u8 (code),.int .i64 ((dpS code a h n.toNat).2.1),.int .u64 ((dpS code a h n.toNat).2.2)]]⟩
def l03DrawPerm_ct:List AD→Option Post
 | [.box [.ints .u8 (code),.int .i64 (a),.int .u64 (h)],.c (.int .i64 (n))]=>some (l03DrawPerm_p code a h n)
 | _=>none
def l03DrawPerm_ann (code:List Int) (a:Int) (h:Int) (n:Int):Nat→Option Ann
 | 0=>some (Ann.mk ((Nat)) (fun i=>⟨[(0,.c (.ptr 700 0)),(1,.c (.int .i64 (n))),(5,.c (.own (9))),(6,.c (.int .i64 ((i:Int))))],[(700,some (.box [.orig 700 0 (.ints .u8 (code)),.int .i64 ((dpS code a h i).2.1),.int .u64 ((dpS code a h i).2.2)])),(9,some (.ints 2 .i64 ((dpS code a h i).1)))]⟩) (fun i=>(i:Int)≤n) (fun i=>n.toNat - i) (fun _=>noAnn))
 | _=>none
def l03DrawPerm_G:List (Nat×Ctr):=[(47,⟨[(0,0)],l01Next_ct⟩)]
def l03DrawPerm_c1 (code:List Int) (a:Int) (h:Int) (x0:Nat):=(nxV code (((dpS code a h x0).2).1) (((dpS code a h x0).2).2) ((↑x0:Int)+(1:Int)))
def l03DrawPerm_V (code:List Int) (a:Int) (h:Int) (n:Int):Prop :=
 ((∃x0:Nat,(((↑x0:Int)≤n)∧((n=n)∧(((0:Int)=(↑x0:Int))∧((code=code)∧((a=((dpS code a h x0).2).1)∧((h=((dpS code a h x0).2).2)∧([]=(dpS code a h x0).1))))))))∧(∀x1:Nat,(((↑x1:Int)≤n)→(BrP (decide ((↑x1:Int)<n)) ((InR ((↑x1:Int)+(1:Int)))∧((((bytesB code)∧(((0:Int)≤((dpS code a h x1).2).1)∧(((dpS code a h x1).2).1≤(1099511627776:Int))))∧((code=code)∧True))∧((bdsOk (((dpS code a h x1).1).length) (Option.some (l03DrawPerm_c1 code a h x1)) Option.none)∧((room ([(↑x1:Int)].length+(List.take (((dpS code a h x1).1).length - (l03DrawPerm_c1 code a h x1).toNat) (List.drop ((l03DrawPerm_c1 code a h x1).toNat) ((dpS code a h x1).1))).length))∧((bdsOk (((dpS code a h x1).1).length) Option.none (Option.some (l03DrawPerm_c1 code a h x1)))∧((room (([]:List Int).length+(List.take ((l03DrawPerm_c1 code a h x1).toNat) ((dpS code a h x1).1)).length))∧((room (([]++List.take ((l03DrawPerm_c1 code a h x1).toNat) ((dpS code a h x1).1)).length+([(↑x1:Int)]++List.take (((dpS code a h x1).1).length - (l03DrawPerm_c1 code a h x1).toNat) (List.drop ((l03DrawPerm_c1 code a h x1).toNat) ((dpS code a h x1).1))).length))∧((InR ((↑x1:Int)+(1:Int)))∧(∃x2:Nat,(((↑x2:Int)≤n)∧((n.toNat - x2<n.toNat - x1)∧((n=n)∧(((↑x1:Int)+(1:Int)=(↑x2:Int))∧((code=code)∧((nxA (code.length) (((dpS code a h x1).2).1) ((↑x1:Int)+(1:Int))=((dpS code a h x2).2).1)∧((nxH (((dpS code a h x1).2).2) ((↑x1:Int)+(1:Int))=((dpS code a h x2).2).2) ∧
 ([]++List.take ((l03DrawPerm_c1 code a h x1).toNat) ((dpS code a h x1).1)++([(↑x1:Int)]++List.take (((dpS code a h x1).1).length - (l03DrawPerm_c1 code a h x1).toNat) (List.drop ((l03DrawPerm_c1 code a h x1).toNat) ((dpS code a h x1).1)))=(dpS code a h x2).1))))))))))))))))) (((dpS code a h x1).1=(dpS code a h (n.toNat)).1)∧(((code=code)∧((((dpS code a h x1).2).1=((dpS code a h (n.toNat)).2).1)∧((((dpS code a h x1).2).2=((dpS code a h (n.toNat)).2).2)∧True)))∧True))))))
theorem l03DrawPerm_vc (code:List Int) (a:Int) (h:Int) (n:Int):runF Tryz.prog (gam l03DrawPerm_G) noWr (l03DrawPerm_ann code a h n) Tryz.f88 (bodyOf Tryz.f88) [(0,0)] [.box [.ints .u8 (code),.int .i64 (a),.int .u64 (h)],.c (.int .i64 (n))] (l03DrawPerm_p code a h n)=l03DrawPerm_V code a h n:=by kernel_rfl
theorem l03DrawPerm_ok (code:List Int) (a:Int) (h:Int) (n:Int) (hpre:(l03DrawPerm_p code a h n).pre):l03DrawPerm_V code a h n:=by
 simp only [l03DrawPerm_p,l03DrawPerm_V,l03DrawPerm_c1,BrP_iff,u1,u2,u3,u4,u5,u6,u7,u8,u9,v1,v2,v3,v4,v5,v6,v7,v8,v9,w1,w2,w3,w4,markL_length,inB,InR,room,bdsOk] at hpre ⊢
 obtain ⟨hb,h0,h1,h2,h3,h4⟩:=hpre
 refine ⟨⟨0,by omega,rfl,rfl,rfl,rfl⟩,fun i hi=>⟨fun hlt=>?_,fun hge=>?_⟩⟩
 ·obtain ⟨e1,e2,e3,e4⟩:=dp_in hb (h:=h) h0 h1 i
  have v:=nxV_in hb (dpS code a h i).2.1 (dpS code a h i).2.2 (n:=(i:Int)+1) (by omega)
  refine ⟨by omega,⟨hb,e3,by omega⟩,by omega,by omega,by omega,by omega,by omega,by omega,i+1,by omega,by omega,by omega,rfl,rfl,?_⟩
  rw [show ∀k,List.take ((dpS code a h i).1.length - k) (List.drop k (dpS code a h i).1)=List.drop k (dpS code a h i).1 from fun k=>List.take_of_length_le (by simp)]
  rfl
 ·rw [show i=n.toNat by omega];exact ⟨rfl,rfl,rfl⟩
theorem l03DrawPerm_fits:Fits Tryz.prog 88 ⟨[(0,0)],l03DrawPerm_ct⟩:=by
 refine ffn (Γ:=gam l03DrawPerm_G) (gok_cons l01Next_fits gok_nil) Tryz.func88 fun ds p h hp=>?_
 unfold l03DrawPerm_ct at h
 split at h
 ·cases h
  exact ⟨noWr,l03DrawPerm_ann _ _ _ _ ,by rw [l03DrawPerm_vc];exact l03DrawPerm_ok _ _ _ _  hp⟩
 ·cases h
def roll_p (code:List Int) (s:Int):Post:=⟨bytesB code∧code.length≤4096,.c (.bx [.ints .u8 (code),.int .i64 (0),.int .u64 (rlH code s code.length)]),[]⟩
def roll_ct:List AD→Option Post
 | [.c (.ints .u8 (code)),.c (.int .u64 (s))]=>some (roll_p code s)
 | _=>none
def roll_ann (code:List Int) (s:Int):Nat→Option Ann
 | 0=>some (Ann.mk ((Nat)) (fun i=>⟨[(0,.c (.ro (.ints .u8 (code)))),(5,.c (.ptr 15 0)),(6,.c (.int .i64 ((i:Int))))],[(15,some (.box [.ro (.ints .u8 (code)),.int .i64 (0),.int .u64 (rlH code s i)]))]⟩) (fun i=>i≤code.length) (fun i=>code.length - i) (fun _=>noAnn))
 | _=>none
def roll_G:List (Nat×Ctr):=[]
def roll_V (code:List Int) (s:Int):Prop :=
 ((∃x0:Nat,((x0≤code.length)∧((code=code)∧(((0:Int)=(↑x0:Int))∧((code=code)∧(((0:Int)=(0:Int))∧(IntKind.wrap IntKind.u64 (IntKind.wrap IntKind.u64 (s * (5507:Int))+IntKind.wrap IntKind.u64 (↑(code.length):Int))=rlH code s x0)))))))∧(∀x1:Nat,((x1≤code.length)→(BrP (decide ((↑x1:Int)<(↑(code.length):Int))) ((inB (↑x1:Int) (code.length))∧((InR ((↑x1:Int)+(1:Int)))∧(∃x2:Nat,((x2≤code.length)∧((code.length - x2<code.length - x1)∧((code=code)∧(((↑x1:Int)+(1:Int)=(↑x2:Int))∧((code=code)∧(((0:Int)=(0:Int))∧(IntKind.wrap IntKind.u64 (IntKind.wrap IntKind.u64 (IntKind.wrap IntKind.u64 (rlH code s x1 * (1099511628211:Int))+IntKind.wrap IntKind.u64 (code.getD ((↑x1:Int).toNat) (0:Int)))+(5:Int))=rlH code s x2)))))))))) ((([FC.ints IntKind.u8 code,FC.int IntKind.i64 (0:Int),FC.int IntKind.u64 (rlH code s (code.length))]≠[])∧((code=code)∧(((0:Int)=(0:Int))∧((rlH code s x1=rlH code s (code.length))∧True))))∧True)))))
set_option maxRecDepth 100000 in
theorem roll_vc (code:List Int) (s:Int):runF Tryz.prog (gam roll_G) noWr (roll_ann code s) Tryz.f30 (bodyOf Tryz.f30) [] [.c (.ints .u8 (code)),.c (.int .u64 (s))] (roll_p code s)=roll_V code s:=by kernel_rfl
theorem roll_ok (code:List Int) (s:Int) (hpre:(roll_p code s).pre):roll_V code s:=by
 simp only [roll_p,roll_V,BrP_iff,u1,u2,u3,u4,u5,u6,u7,u8,u9,v1,v2,v3,v4,v5,v6,v7,v8,v9,w1,w2,w3,w4,markL_length,inB,InR,room,bdsOk] at hpre ⊢
 obtain ⟨hb,h0⟩:=hpre
 refine ⟨⟨0,by omega,rfl,rfl⟩,fun i hi=>⟨fun h=>⟨by omega,by omega,i+1,by omega,by omega,by omega,rfl⟩,fun h=>⟨by simp,by rw [show i=code.length by omega]⟩⟩⟩
theorem roll_fits:Fits Tryz.prog 30 ⟨[],roll_ct⟩:=by
 refine ffn (Γ:=gam roll_G) gok_nil Tryz.func30 fun ds p h hp=>?_
 unfold roll_ct at h
 split at h
 ·cases h
  exact ⟨noWr,roll_ann _ _ ,by rw [roll_vc];exact roll_ok _ _  hp⟩
 ·cases h
def below_p (code:List Int) (a:Int) (h:Int) (n:Int):Post:=⟨bytesB code∧0≤a∧a≤1099511627776,.c (.int .i64 (nxV code a h n)),[.bx [.ints .u8 (code),.int .i64 (nxA code.length a n),.int .u64 (nxH h n)]]⟩
def below_ct:List AD→Option Post
 | [.box [.ints .u8 (code),.int .i64 (a),.int .u64 (h)],.c (.int .i64 (n))]=>some (below_p code a h n)
 | _=>none
def below_G:List (Nat×Ctr):=[]
def below_c1 (h:Int):=(↑((IntKind.wrap IntKind.u64 (IntKind.wrap IntKind.u64 (h * (6364136223846793005:Int))+(1442695040888963407:Int)) / (2:Int) ^ (33:Int).toNat).toNat &&& (16777215:Int).toNat):Int)
def below_V (code:List Int) (a:Int) (h:Int) (n:Int):Prop :=
 (BrP (decide (n<(1:Int))) (((0:Int)=nxV code a h n)∧(((code=code)∧((a=nxA (code.length) a n)∧((h=nxH h n)∧True)))∧True)) ((((0:Int)≤(33:Int))∧((33:Int)≤(62:Int)))∧(((((0:Int)≤IntKind.wrap IntKind.u64 (IntKind.wrap IntKind.u64 (h * (6364136223846793005:Int))+(1442695040888963407:Int)) / (2:Int) ^ (33:Int).toNat)∧(IntKind.wrap IntKind.u64 (IntKind.wrap IntKind.u64 (h * (6364136223846793005:Int))+(1442695040888963407:Int)) / (2:Int) ^ (33:Int).toNat≤(18446744073709551615:Int)))∧(((0:Int)≤(16777215:Int))∧((16777215:Int)≤(18446744073709551615:Int))))∧((InR (below_c1 h))∧(BrP (decide (a<(↑(code.length):Int))) ((inB a (code.length))∧((InR (code.getD (a.toNat) (0:Int)))∧((InR ((below_c1 h)+code.getD (a.toNat) (0:Int)))∧((InR (a+(1:Int)))∧((n≠(0:Int))∧((Int.tmod ((below_c1 h)+code.getD (a.toNat) (0:Int)) n=nxV code a h n)∧(((code=code)∧((a+(1:Int)=nxA (code.length) a n)∧((IntKind.wrap IntKind.u64 (IntKind.wrap IntKind.u64 (h * (6364136223846793005:Int))+(1442695040888963407:Int))=nxH h n)∧True)))∧True))))))) ((n≠(0:Int))∧((Int.tmod (below_c1 h) n=nxV code a h n)∧(((code=code)∧((a=nxA (code.length) a n)∧((IntKind.wrap IntKind.u64 (IntKind.wrap IntKind.u64 (h * (6364136223846793005:Int))+(1442695040888963407:Int))=nxH h n)∧True)))∧True))))))))
theorem below_vc (code:List Int) (a:Int) (h:Int) (n:Int):runF Tryz.prog (gam below_G) noWr noAnn Tryz.f81 (bodyOf Tryz.f81) [(0,0)] [.box [.ints .u8 (code),.int .i64 (a),.int .u64 (h)],.c (.int .i64 (n))] (below_p code a h n)=below_V code a h n:=by kernel_rfl
theorem below_ok (code:List Int) (a:Int) (h:Int) (n:Int) (hpre:(below_p code a h n).pre):below_V code a h n:=by
 simp only [below_p,below_V,below_c1,BrP_iff,u1,u2,u3,u4,u5,u6,u7,u8,u9,v1,v2,v3,v4,v5,v6,v7,v8,v9,w1,w2,w3,w4,markL_length,inB,InR,room,bdsOk] at hpre ⊢
 obtain ⟨hb,h0,h1⟩:=hpre
 have hr:=nxR_in h
 have hg:=bytes_get hb a.toNat
 have hs:0≤stepH h∧stepH h≤18446744073709551615:=wrapU_in _
 refine ⟨fun hn=>⟨(if_pos hn).symm,(if_pos hn).symm,(if_pos hn).symm⟩,fun hn=>⟨?_,?_⟩⟩
 ·exact ⟨by decide,by decide⟩
 ·have e2:IntKind.u64.wrap (IntKind.u64.wrap (h * 6364136223846793005)+1442695040888963407)=stepH h:=rfl
  have e:(((stepH h / 2 ^ Int.toNat 33).toNat &&& Int.toNat 16777215:Nat):Int)=nxR h:=rfl
  rw [e2,e,show stepH h / 2 ^ Int.toNat 33=stepH h / 8589934592 from rfl]
  refine ⟨by omega,by omega,fun hl=>⟨by omega,by omega,by omega,by omega,by omega,?_,?_,(if_neg hn).symm⟩,fun hl=>⟨by omega,?_,?_,(if_neg hn).symm⟩⟩
  ·rw [nxV,if_neg hn,if_pos hl]
  ·rw [nxA,if_neg hn,if_pos hl]
  ·rw [nxV,if_neg hn,if_neg hl]
  ·rw [nxA,if_neg hn,if_neg hl]
theorem below_fits:Fits Tryz.prog 81 ⟨[(0,0)],below_ct⟩:=by
 refine ffn (Γ:=gam below_G) gok_nil Tryz.func81 fun ds p h hp=>?_
 unfold below_ct at h
 split at h
 ·cases h
  exact ⟨noWr,noAnn,by rw [below_vc];exact below_ok _ _ _ _  hp⟩
 ·cases h
end Go.Sx
end
section
open Go Go.Proofs
namespace Go.Sx
set_option linter.unusedSimpArgs false
set_option linter.unusedVariables false
def sqB (n:Int) (t:List (List Int)):Prop:=(t.length:Int)=n∧∀i,i<t.length→((t.getD i []).length:Int)=n∧∀j,j<t.length→0≤(t.getD i []).getD j 0∧(t.getD i []).getD j 0≤n - 1
def alF (n a b:Int) (x y:Nat):Int:=(b * (x:Int)+a * (y:Int)).tmod n
def alT (n a b:Int):List (List Int):=tabR n.toNat (alF n a b)
theorem mulN_in {a:Int} {x:Nat} (h0:0≤a) (h1:a≤1000) (hx:x≤1000):0≤a * (x:Int)∧a * (x:Int)≤1000000:=by
 constructor
 ·exact Int.mul_nonneg h0 (by omega)
 ·exact Int.mul_le_mul h1 (show (x:Int)≤1000 by omega) (by omega) (by omega)
theorem sq_tabR {n:Int} (f:Nat→Nat→Int) (h0:0≤n) (h:∀x y:Nat,(x:Int)<n→(y:Int)<n→0≤f x y∧f x y≤n - 1):sqB n (tabR n.toNat f):=by
 refine ⟨by rw [tabR_length];omega,fun i hi=>?_⟩
 rw [tabR_length] at hi
 rw [tabR_getD _ _ _ hi,tab_length,tabR_length]
 exact ⟨by omega,fun j hj=>by rw [tab_getD _ _ _ hj];exact h i j (by omega) (by omega)⟩
theorem al_sq {n a b:Int} (h0:0≤n) (h1:n≤144) (ha:0≤a∧a≤144) (hb:0≤b∧b≤144):sqB n (alT n a b) :=
 sq_tabR _ h0 fun x y hx hy=>by
  have:=mulN_in (x:=x) hb.1 (by omega) (by omega)
  have:=mulN_in (x:=y) ha.1 (by omega) (by omega)
  exact tmod_in' (by omega) (by omega)
def l03Alexander_p (n:Int) (a:Int) (b:Int):Post:=⟨0≤n∧n≤144∧0≤a∧a≤144∧0≤b∧b≤144,.c (.rows 31 2 .i64 (alT n a b)),[]⟩
def l03Alexander_ct:List AD→Option Post
 | [.c (.int .i64 (n)),.c (.int .i64 (a)),.c (.int .i64 (b))]=>some (l03Alexander_p n a b)
 | _=>none
def l03Alexander_ann (n:Int) (a:Int) (b:Int):Nat→Option Ann
 | 0=>some (Ann.mk ((Nat)) (fun i=>⟨[(0,.c (.int .i64 (n))),(1,.c (.int .i64 (a))),(2,.c (.int .i64 (b))),(7,.c (.own (11))),(8,.c (.int .i64 ((i:Int))))],[(11,some (.rows 0 31 2 .i64 ((alT n a b).take i)))]⟩) (fun i=>(i:Int)≤n) (fun i=>n.toNat - i) (fun i=>fun b_=>match b_ with | 2=>some (Ann.mk ((Nat)) (fun j=>⟨[(0,.c (.int .i64 (n))),(1,.c (.int .i64 (a))),(2,.c (.int .i64 (b))),(7,.c (.own (11))),(8,.c (.int .i64 ((i:Int)))),(9,.c (.own (17))),(10,.c (.int .i64 ((j:Int))))],[(11,some (.rows 0 31 2 .i64 ((alT n a b).take i))),(17,some (.ints 2 .i64 ((tab n.toNat (alF n a b i)).take j)))]⟩) (fun j=>(j:Int)≤n∧(i:Int)<n) (fun j=>n.toNat - j) (fun _=>noAnn)) | _=>none))
 | _=>none
def l03Alexander_G:List (Nat×Ctr):=[]
def l03Alexander_V (n:Int) (a:Int) (b:Int):Prop :=
 ((∃x0:Nat,(((↑x0:Int)≤n)∧((n=n)∧((a=a)∧((b=b)∧(((0:Int)=(↑x0:Int))∧([]=List.take x0 (alT n a b))))))))∧(∀x1:Nat,(((↑x1:Int)≤n)→(BrP (decide ((↑x1:Int)<n)) ((∃x2:Nat,((((↑x2:Int)≤n)∧((↑x1:Int)<n))∧((n=n)∧((a=a)∧((b=b)∧(((↑x1:Int)=(↑x1:Int))∧(((0:Int)=(↑x2:Int))∧((List.take x1 (alT n a b)=List.take x1 (alT n a b))∧([]=List.take x2 (tab (n.toNat) (alF n a b x1)))))))))))∧(∀x3:Nat,((((↑x3:Int)≤n)∧((↑x1:Int)<n))→(BrP (decide ((↑x3:Int)<n)) ((InR (b * (↑x1:Int)))∧((InR (a * (↑x3:Int)))∧((InR (b * (↑x1:Int)+a * (↑x3:Int)))∧((n≠(0:Int))∧((room ((List.take x3 (tab (n.toNat) (alF n a b x1))).length+[Int.tmod (b * (↑x1:Int)+a * (↑x3:Int)) n].length))∧((InR ((↑x3:Int)+(1:Int)))∧(∃x4:Nat,((((↑x4:Int)≤n)∧((↑x1:Int)<n))∧((n.toNat - x4<n.toNat - x3)∧((n=n)∧((a=a)∧((b=b)∧(((↑x1:Int)=(↑x1:Int))∧(((↑x3:Int)+(1:Int)=(↑x4:Int))∧((List.take x1 (alT n a b)=List.take x1 (alT n a b))∧(List.take x3 (tab (n.toNat) (alF n a b x1))++[Int.tmod (b * (↑x1:Int)+a * (↑x3:Int)) n]=List.take x4 (tab (n.toNat) (alF n a b x1)))))))))))))))))) ((room ((List.take x1 (alT n a b)).length+[List.take x3 (tab (n.toNat) (alF n a b x1))].length))∧((InR ((↑x1:Int)+(1:Int)))∧(∃x5:Nat,(((↑x5:Int)≤n)∧((n.toNat - x5<n.toNat - x1)∧((n=n)∧((a=a)∧((b=b)∧(((↑x1:Int)+(1:Int)=(↑x5:Int))∧(List.take x1 (alT n a b)++[List.take x3 (tab (n.toNat) (alF n a b x1))]=List.take x5 (alT n a b)))))))))))))))
 ((List.take x1 (alT n a b)=alT n a b)∧True)))))
theorem l03Alexander_vc (n:Int) (a:Int) (b:Int):runF Tryz.prog (gam l03Alexander_G) noWr (l03Alexander_ann n a b) Tryz.f147 (bodyOf Tryz.f147) [] [.c (.int .i64 (n)),.c (.int .i64 (a)),.c (.int .i64 (b))] (l03Alexander_p n a b)=l03Alexander_V n a b:=by kernel_rfl
theorem l03Alexander_ok (n:Int) (a:Int) (b:Int) (hpre:(l03Alexander_p n a b).pre):l03Alexander_V n a b:=by
 simp only [l03Alexander_p,l03Alexander_V,BrP_iff,u1,u2,u3,u4,u5,u6,u7,u8,u9,v1,v2,v3,v4,v5,v6,v7,v8,v9,w1,w2,w3,w4,markL_length,inB,InR,room,bdsOk] at hpre ⊢
 obtain ⟨h0,h1,a0,a1,b0,b1⟩:=hpre
 have hT:(alT n a b).length=n.toNat:=tabR_length _ _
 have hr:∀i:Nat,(tab n.toNat (alF n a b i)).length=n.toNat:=fun i=>tab_length _ _
 refine ⟨⟨0,by omega,rfl,by simp⟩,fun i hi=>⟨fun h=>⟨⟨0,by omega,rfl,by simp⟩,fun j ⟨hj,_⟩=>⟨fun h3=>?_,fun h3=>?_⟩⟩,fun h=>List.take_of_length_le (by omega)⟩⟩
 ·have m1:=mulN_in (x:=i) b0 (by omega) (by omega)
  have m2:=mulN_in (x:=j) a0 (by omega) (by omega)
  have:=hr i
  refine ⟨by omega,by omega,by omega,by omega,by omega,by omega,j+1,by omega,by omega,by omega,?_⟩
  rw [←take_snoc _ 0 j (by omega),tab_getD _ _ _ (by omega)]
  rfl
 ·refine ⟨by omega,by omega,i+1,by omega,by omega,by omega,?_⟩
  have e:(tab n.toNat (alF n a b i)).take j=tab n.toNat (alF n a b i):=List.take_of_length_le (by rw [hr];omega)
  rw [e,←take_snoc (alT n a b) [] i (by omega),show (alT n a b).getD i []=_ from tabR_getD _ _ _ (by omega)]
theorem l03Alexander_fits:Fits Tryz.prog 147 ⟨[],l03Alexander_ct⟩:=by
 refine ffn (Γ:=gam l03Alexander_G) gok_nil Tryz.func147 fun ds p h hp=>?_
 unfold l03Alexander_ct at h
 split at h
 ·cases h
  exact ⟨noWr,l03Alexander_ann _ _ _ ,by rw [l03Alexander_vc];exact l03Alexander_ok _ _ _  hp⟩
 ·cases h
def cpD (a n:Int):Nat→Int→Bool
 | 0,_=>true
 | k+1,d=>if a.tmod d=0∧n.tmod d=0 then false else cpD a n k (d+1)
def l03Coprime_p (a:Int) (n:Int):Post:=⟨0≤n∧n≤144∧0≤a∧a≤144,.c (.bool (cpD a n (n - 1).toNat 2)),[]⟩
def l03Coprime_ct:List AD→Option Post
 | [.c (.int .i64 (a)),.c (.int .i64 (n))]=>some (l03Coprime_p a n)
 | _=>none
def l03Coprime_ann (a:Int) (n:Int):Nat→Option Ann
 | 0=>some (Ann.mk ((Nat)) (fun i=>⟨[(0,.c (.int .i64 (a))),(1,.c (.int .i64 (n))),(5,.c (.int .i64 (2+(i:Int))))],[]⟩) (fun i=>i≤(n - 1).toNat∧cpD a n (n - 1).toNat 2=cpD a n ((n - 1).toNat - i) (2+(i:Int))) (fun i=>(n - 1).toNat - i) (fun _=>noAnn))
 | _=>none
def l03Coprime_G:List (Nat×Ctr):=[]
def l03Coprime_V (a:Int) (n:Int):Prop :=
 ((∃x0:Nat,(((x0≤(n - (1:Int)).toNat)∧(cpD a n ((n - (1:Int)).toNat) (2:Int)=cpD a n ((n - (1:Int)).toNat - x0) ((2:Int)+(↑x0:Int))))∧((a=a)∧((n=n)∧((2:Int)=(2:Int)+(↑x0:Int))))))∧(∀x1:Nat,(((x1≤(n - (1:Int)).toNat)∧(cpD a n ((n - (1:Int)).toNat) (2:Int)=cpD a n ((n - (1:Int)).toNat - x1) ((2:Int)+(↑x1:Int))))→(BrP (decide ((2:Int)+(↑x1:Int)≤n)) (((2:Int)+(↑x1:Int)≠(0:Int))∧(BrP (Int.tmod a ((2:Int)+(↑x1:Int)) == (0:Int)) (((2:Int)+(↑x1:Int)≠(0:Int))∧(BrP (Int.tmod n ((2:Int)+(↑x1:Int)) == (0:Int)) ((false=cpD a n ((n - (1:Int)).toNat) (2:Int))∧True) ((InR ((2:Int)+(↑x1:Int)+(1:Int)))∧(∃x2:Nat,(((x2≤(n - (1:Int)).toNat)∧(cpD a n ((n - (1:Int)).toNat) (2:Int)=cpD a n ((n - (1:Int)).toNat - x2) ((2:Int)+(↑x2:Int))))∧(((n - (1:Int)).toNat - x2<(n - (1:Int)).toNat - x1)∧((a=a)∧((n=n)∧((2:Int)+(↑x1:Int)+(1:Int)=(2:Int)+(↑x2:Int)))))))))) ((InR ((2:Int)+(↑x1:Int)+(1:Int)))∧(∃x3:Nat,(((x3≤(n - (1:Int)).toNat)∧(cpD a n ((n - (1:Int)).toNat) (2:Int)=cpD a n ((n - (1:Int)).toNat - x3) ((2:Int)+(↑x3:Int))))∧(((n - (1:Int)).toNat - x3<(n - (1:Int)).toNat - x1)∧((a=a)∧((n=n)∧((2:Int)+(↑x1:Int)+(1:Int)=(2:Int)+(↑x3:Int)))))))))) ((true=cpD a n ((n - (1:Int)).toNat) (2:Int))∧True)))))
theorem l03Coprime_vc (a:Int) (n:Int):runF Tryz.prog (gam l03Coprime_G) noWr (l03Coprime_ann a n) Tryz.f148 (bodyOf Tryz.f148) [] [.c (.int .i64 (a)),.c (.int .i64 (n))] (l03Coprime_p a n)=l03Coprime_V a n:=by kernel_rfl
theorem l03Coprime_ok (a:Int) (n:Int) (hpre:(l03Coprime_p a n).pre):l03Coprime_V a n:=by
 simp only [l03Coprime_p,l03Coprime_V,BrP_iff,u1,u2,u3,u4,u5,u6,u7,u8,u9,v1,v2,v3,v4,v5,v6,v7,v8,v9,w1,w2,w3,w4,markL_length,inB,InR,room,bdsOk] at hpre ⊢
 obtain ⟨h0,h1,a0,a1⟩:=hpre
 refine ⟨⟨0,⟨by omega,rfl⟩,rfl⟩,fun i ⟨hi,hx⟩=>⟨fun h=>?_,fun h=>?_⟩⟩
 ·have st:cpD a n ((n - 1).toNat - i) (2+(i:Int))=if a.tmod (2+(i:Int))=0∧n.tmod (2+(i:Int))=0 then false else cpD a n ((n - 1).toNat - (i+1)) (2+((i+1:Nat):Int)):=by
   rw [show (n - 1).toNat - i=((n - 1).toNat - (i+1))+1 by omega,show 2+((i+1:Nat):Int)=2+(i:Int)+1 by omega];rfl
  refine ⟨by omega,fun c1=>⟨by omega,fun c2=>by rw [hx,st,if_pos ⟨c1,c2⟩],fun c2=>⟨by omega,i+1,⟨by omega,by rw [hx,st,if_neg fun e=>c2 e.2]⟩,by omega,by omega⟩⟩,fun c1=>⟨by omega,i+1,⟨by omega,by rw [hx,st,if_neg fun e=>c1 e.1]⟩,by omega,by omega⟩⟩
 ·rw [hx,show (n - 1).toNat - i=0 by omega];rfl
theorem l03Coprime_fits:Fits Tryz.prog 148 ⟨[],l03Coprime_ct⟩:=by
 refine ffn (Γ:=gam l03Coprime_G) gok_nil Tryz.func148 fun ds p h hp=>?_
 unfold l03Coprime_ct at h
 split at h
 ·cases h
  exact ⟨noWr,l03Coprime_ann _ _ ,by rw [l03Coprime_vc];exact l03Coprime_ok _ _  hp⟩
 ·cases h
def imC (t:List (List Int)) (p:List Int) (x:Nat):Nat→List (List Int)→List (List Int)
 | 0,o=>o
 | y+1,o=>let o':=imC t p x y o
  o'.set (p.getD x 0).toNat ((o'.getD (p.getD x 0).toNat []).set (p.getD y 0).toNat (p.getD ((t.getD x []).getD y 0).toNat 0))
def imL (t:List (List Int)) (p:List Int):Nat→List (List Int)
 | 0=>t
 | x+1=>imC t p x t.length (imL t p x)
theorem sq_set {n:Int} {o:List (List Int)} (h:sqB n o) {k j:Nat} (hk:(k:Int)<n) (hj:(j:Int)<n) {v:Int} (h0:0≤v) (h1:v≤n - 1):sqB n (o.set k ((o.getD k []).set j v)):=by
 refine ⟨by rw [List.length_set];exact h.1,fun i hi=>?_⟩
 rw [List.length_set] at hi
 have e:=h.2 i hi
 by_cases hik:k=i
 ·subst hik
  have:(o.set k ((o.getD k []).set j v)).getD k []=(o.getD k []).set j v:=by
   rw [List.getD_eq_getElem?_getD,List.getElem?_set_self hi];rfl
  rw [this,List.length_set,List.length_set]
  refine ⟨e.1,fun x hx=>?_⟩
  by_cases hxj:j=x
  ·subst hxj
   have:((o.getD k []).set j v).getD j 0=v:=by
    rw [List.getD_eq_getElem?_getD,List.getElem?_set_self (by omega)];rfl
   rw [this];exact ⟨h0,h1⟩
  ·have:((o.getD k []).set j v).getD x 0=(o.getD k []).getD x 0:=by
    rw [List.getD_eq_getElem?_getD,List.getElem?_set_ne hxj,←List.getD_eq_getElem?_getD]
   rw [this];exact e.2 x hx
 ·have:(o.set k ((o.getD k []).set j v)).getD i []=o.getD i []:=by
   rw [List.getD_eq_getElem?_getD,List.getElem?_set_ne hik,←List.getD_eq_getElem?_getD]
  rw [this,List.length_set];exact e
section
variable {t:List (List Int)} {p:List Int} (ht:sqB (t.length:Int) t) (hp:p.length=t.length) (hq:∀i,i<p.length→0≤p.getD i 0∧p.getD i 0≤(t.length:Int) - 1)
include ht hp hq
theorem imC_sq (x:Nat) (hx:x<t.length):∀(y:Nat),y≤t.length→∀o,sqB (t.length:Int) o→sqB (t.length:Int) (imC t p x y o)
 | 0,_,o,h=>h
 | y+1,hy,o,h=>by
  have e:=imC_sq x hx y (by omega) o h
  have q1:=hq x (by omega)
  have q2:=hq y (by omega)
  have t1:=(ht.2 x hx).2 y (by omega)
  have q3:=hq ((t.getD x []).getD y 0).toNat (by omega)
  exact sq_set e (by omega) (by omega) q3.1 q3.2
theorem imL_sq:∀(x:Nat),x≤t.length→sqB (t.length:Int) (imL t p x)
 | 0,_=>ht
 | x+1,hx=>imC_sq ht hp hq x (by omega) _ (Nat.le_refl _) _ (imL_sq x (by omega))
end
def l03Image_p (t:List (List Int)) (p:List Int):Post:=⟨roomR t∧t.length≤144∧sqB (t.length:Int) t∧p.length=t.length∧(∀i,i<p.length→0≤p.getD i 0∧p.getD i 0≤(t.length:Int) - 1),.c (.rows 31 2 .i64 (imL t p t.length)),[]⟩
def l03Image_ct:List AD→Option Post
 | [.c (.rows .i64 (t)),.c (.ints .i64 (p))]=>some (l03Image_p t p)
 | _=>none
def l03Image_ann (t:List (List Int)) (p:List Int):Nat→Option Ann
 | 0=>some (Ann.mk ((Nat)) (fun i=>⟨[(0,.c (.ro (.rows .i64 (t)))),(1,.c (.ro (.ints .i64 (p)))),(5,.c (.own (9))),(6,.c (.int .i64 ((i:Int))))],[(9,some (.rows 0 31 2 .i64 (imL t p i)))]⟩) (fun i=>i≤t.length) (fun i=>t.length - i) (fun i=>fun b_=>match b_ with | 2=>some (Ann.mk ((Nat)) (fun j=>⟨[(0,.c (.ro (.rows .i64 (t)))),(1,.c (.ro (.ints .i64 (p)))),(5,.c (.own (9))),(6,.c (.int .i64 ((i:Int)))),(7,.c (.int .i64 ((j:Int))))],[(9,some (.rows 0 31 2 .i64 (imC t p i j (imL t p i))))]⟩) (fun j=>j≤t.length∧i<t.length) (fun j=>t.length - j) (fun _=>noAnn)) | _=>none))
 | _=>none
def l03Image_G:List (Nat×Ctr):=[(150,⟨[],l01Own2_ct⟩)]
def l03Image_V (t:List (List Int)) (p:List Int):Prop :=
 (((roomR t)∧True)∧((∃x0:Nat,((x0≤t.length)∧((t=t)∧((p=p)∧(((0:Int)=(↑x0:Int))∧(t=imL t p x0))))))∧(∀x1:Nat,((x1≤t.length)→(BrP (decide ((↑x1:Int)<(↑(t.length):Int))) ((∃x2:Nat,(((x2≤t.length)∧(x1<t.length))∧((t=t)∧((p=p)∧(((↑x1:Int)=(↑x1:Int))∧(((0:Int)=(↑x2:Int))∧(imL t p x1=imC t p x1 x2 (imL t p x1))))))))∧(∀x3:Nat,(((x3≤t.length)∧(x1<t.length))→(BrP (decide ((↑x3:Int)<(↑(t.length):Int))) ((inB (↑x1:Int) (p.length))∧((inB (p.getD ((↑x1:Int).toNat) (0:Int)) ((imC t p x1 x3 (imL t p x1)).length))∧((inB (↑x3:Int) (p.length))∧((inB (↑x1:Int) (t.length))∧((inB (↑x3:Int) ((t.getD ((↑x1:Int).toNat) []).length))∧((inB ((List.getD t ((↑x1:Int).toNat) []).getD ((↑x3:Int).toNat) (0:Int)) (p.length))∧((inB (p.getD ((↑x3:Int).toNat) (0:Int)) (((imC t p x1 x3 (imL t p x1)).getD ((p.getD ((↑x1:Int).toNat) (0:Int)).toNat) []).length))∧((InR ((↑x3:Int)+(1:Int)))∧(∃x4:Nat,(((x4≤t.length)∧(x1<t.length))∧((t.length - x4<t.length - x3)∧((t=t)∧((p=p)∧(((↑x1:Int)=(↑x1:Int))∧(((↑x3:Int)+(1:Int)=(↑x4:Int))∧(List.set (imC t p x1 x3 (imL t p x1)) ((p.getD ((↑x1:Int).toNat) (0:Int)).toNat) (List.set ((imC t p x1 x3 (imL t p x1)).getD ((p.getD ((↑x1:Int).toNat) (0:Int)).toNat) []) ((p.getD ((↑x3:Int).toNat) (0:Int)).toNat) (p.getD (((List.getD t ((↑x1:Int).toNat) []).getD ((↑x3:Int).toNat) (0:Int)).toNat) (0:Int)))=imC t p x1 x4 (imL t p x1))))))))))))))))) ((InR ((↑x1:Int)+(1:Int)))∧(∃x5:Nat,((x5≤t.length) ∧
 ((t.length - x5<t.length - x1)∧((t=t)∧((p=p)∧(((↑x1:Int)+(1:Int)=(↑x5:Int))∧(imC t p x1 x3 (imL t p x1)=imL t p x5)))))))))))) ((imL t p x1=imL t p (t.length))∧True))))))
theorem l03Image_vc (t:List (List Int)) (p:List Int):runF Tryz.prog (gam l03Image_G) noWr (l03Image_ann t p) Tryz.f122 (bodyOf Tryz.f122) [] [.c (.rows .i64 (t)),.c (.ints .i64 (p))] (l03Image_p t p)=l03Image_V t p:=by kernel_rfl
theorem l03Image_ok (t:List (List Int)) (p:List Int) (hpre:(l03Image_p t p).pre):l03Image_V t p:=by
 simp only [l03Image_p,l03Image_V,BrP_iff,u1,u2,u3,u4,u5,u6,u7,u8,u9,v1,v2,v3,v4,v5,v6,v7,v8,v9,w1,w2,w3,w4,markL_length,inB,InR,room,bdsOk] at hpre ⊢
 obtain ⟨r0,h0,h1,h2,h3⟩:=hpre
 have q:=fun x (hx:x<t.length)=>h3 x (by omega)
 have I:=imL_sq h1 (by omega) h3
 refine ⟨r0,⟨0,by omega,rfl,rfl⟩,fun i hi=>⟨fun h=>⟨⟨0,⟨by omega,by omega⟩,rfl,rfl⟩,fun j ⟨hj,_⟩=>⟨fun h4=>?_,fun h4=>?_⟩⟩,fun h=>by rw [show i=t.length by omega]⟩⟩
 ·have C:=imC_sq h1 (by omega) h3 i (by omega) j (by omega) _ (I i (by omega))
  have q1:=q i (by omega)
  have q2:=q j (by omega)
  have t1:=h1.2 i (by omega)
  have t2:=t1.2 j (by omega)
  have c1:=C.1
  have c2:=(C.2 (p.getD i 0).toNat (by omega)).1
  exact ⟨by omega,by omega,by omega,by omega,by omega,by omega,by omega,by omega,j+1,by omega,by omega,by omega,rfl⟩
 ·exact ⟨by omega,i+1,by omega,by omega,by omega,by rw [show j=t.length by omega];rfl⟩
theorem l03Image_fits:Fits Tryz.prog 122 ⟨[],l03Image_ct⟩:=by
 refine ffn (Γ:=gam l03Image_G) (gok_cons l01Own2_fits gok_nil) Tryz.func122 fun ds p h hp=>?_
 unfold l03Image_ct at h
 split at h
 ·cases h
  exact ⟨noWr,l03Image_ann _ _ ,by rw [l03Image_vc];exact l03Image_ok _ _  hp⟩
 ·cases h
end Go.Sx
end
section
open Go Go.Proofs
namespace Go.Sx
set_option linter.unusedSimpArgs false
set_option linter.unusedVariables false
def grS (f:List Int→List (List Int)→List (List Int)) (st:List Int) (l:List (List Int)):Nat→List (List Int)
 | 0=>l
 | i+1=>if (i:Int)∈st then grS f st l i else f (st++[(i:Int)]) (grS f st l i)
def gr0 (st:List Int) (l:List (List Int)):List (List Int):=l++[st]
def gr1 (st:List Int) (l:List (List Int)):List (List Int):=grS gr0 st l 3
def gr2 (st:List Int) (l:List (List Int)):List (List Int):=grS gr1 st l 3
def gr3 (st:List Int) (l:List (List Int)):List (List Int):=grS gr2 st l 3
theorem grS_len {f:List Int→List (List Int)→List (List Int)} {c:Nat} (hf:∀st l,l.length≤(f st l).length∧(f st l).length≤l.length+c) (st:List Int) (l:List (List Int)):∀i,l.length≤(grS f st l i).length∧(grS f st l i).length≤l.length+c * i
 | 0=>by simp [grS]
 | i+1=>by
  have a:=grS_len hf st l i
  have b:=hf (st++[(i:Int)]) (grS f st l i)
  rw [grS,Nat.mul_succ]
  split <;> omega
theorem gr0_len (st:List Int) (l:List (List Int)):l.length≤(gr0 st l).length∧(gr0 st l).length≤l.length+1:=by simp [gr0]
theorem gr1_len (st:List Int) (l:List (List Int)):l.length≤(gr1 st l).length∧(gr1 st l).length≤l.length+3:=grS_len gr0_len st l 3
theorem gr2_len (st:List Int) (l:List (List Int)):l.length≤(gr2 st l).length∧(gr2 st l).length≤l.length+9:=grS_len gr1_len st l 3
def grow0_p (n:Int) (st:List Int) (l:List (List Int)):Post:=⟨n=3∧st.length=3∧l.length≤1000,.c (.rows 31 2 .i64 (gr0 st l)),[.gone (.ints 2 .i64 (st)),.gone (.rows 31 2 .i64 (l))]⟩
def grow0_ct:List AD→Option Post
 | [.c (.int .i64 (n)),.c (.ints .i64 (st)),.c (.rows .i64 (l))]=>some (grow0_p n st l)
 | _=>none
def grow0_ann (n:Int) (st:List Int) (l:List (List Int)):Nat→Option Ann
 | 0=>some (Ann.mk ((Nat)) (fun i=>⟨[(0,.c (.int .i64 (n))),(1,.c (.own (716))),(2,.c (.own (732))),(7,.c (.int .i64 ((i:Int))))],[(716,some (.ints 2 .i64 (st))),(732,some (.rows 0 31 2 .i64 (l)))]⟩) (fun i=>False) (fun i=>1 - i) (fun _=>noAnn))
 | _=>none
def grow0_G:List (Nat×Ctr):=[(137,⟨[],l01Has_ct⟩),(117,⟨[],l01Own_ct⟩)]
def grow0_V (n:Int) (st:List Int) (l:List (List Int)):Prop :=
 (BrP ((↑(st.length):Int) == n) ((room (l.length+[st].length))∧((l++[st]=gr0 st l)∧True)) ((∃x0:Nat,((False)∧((n=n)∧(((0:Int)=(↑x0:Int))∧((st=st)∧(l=l))))))∧(∀x1:Nat,((False)→(BrP (decide ((↑x1:Int)<n)) (((st.length≤(1099511627776:Nat))∧True)∧(BrP (!decide ((↑x1:Int)∈st)) (((room (st.length))∧True)∧((room (st.length+[(↑x1:Int)].length))∧(False))) ((InR ((↑x1:Int)+(1:Int)))∧(∃x2:Nat,((False)∧(((1:Nat) - x2<(1:Nat) - x1)∧((n=n)∧(((↑x1:Int)+(1:Int)=(↑x2:Int))∧((st=st)∧(l=l)))))))))) ((l=gr0 st l)∧True))))))
theorem grow0_vc (n:Int) (st:List Int) (l:List (List Int)):runF Tryz.prog (gam grow0_G) noWr (grow0_ann n st l) Tryz.f164 (bodyOf Tryz.f164) [(1,0),(2,0)] [.c (.int .i64 (n)),.c (.ints .i64 (st)),.c (.rows .i64 (l))] (grow0_p n st l)=grow0_V n st l:=by kernel_rfl
theorem grow0_ok (n:Int) (st:List Int) (l:List (List Int)) (hpre:(grow0_p n st l).pre):grow0_V n st l:=by
 simp only [grow0_p,grow0_V,BrP_iff,u1,u2,u3,u4,u5,u6,u7,u8,u9,v1,v2,v3,v4,v5,v6,v7,v8,v9,w1,w2,w3,w4,markL_length,inB,InR,room,bdsOk] at hpre ⊢
 obtain ⟨h1,h2,h3⟩:=hpre
 refine ⟨fun _=>⟨by simp;omega,rfl⟩,fun h=>absurd h (by omega)⟩
theorem grow0_fits:Fits Tryz.prog 164 ⟨[(1,0),(2,0)],grow0_ct⟩:=by
 refine ffn (Γ:=gam grow0_G) (gok_cons l01Has_fits (gok_cons l01Own_fits gok_nil)) Tryz.func164 fun ds p h hp=>?_
 unfold grow0_ct at h
 split at h
 ·cases h
  exact ⟨noWr,grow0_ann _ _ _ ,by rw [grow0_vc];exact grow0_ok _ _ _  hp⟩
 ·cases h
def grow1_p (n:Int) (st:List Int) (l:List (List Int)):Post:=⟨n=3∧st.length=2∧l.length≤900,.c (.rows 31 2 .i64 (gr1 st l)),[.gone (.ints 2 .i64 (st)),.gone (.rows 31 2 .i64 (l))]⟩
def grow1_ct:List AD→Option Post
 | [.c (.int .i64 (n)),.c (.ints .i64 (st)),.c (.rows .i64 (l))]=>some (grow1_p n st l)
 | _=>none
def grow1_ann (n:Int) (st:List Int) (l:List (List Int)):Nat→Option Ann
 | 0=>some (Ann.mk ((Nat)) (fun i=>⟨[(0,.c (.int .i64 (n))),(1,.c (.own (716))),(2,.c (.own (732))),(7,.c (.int .i64 ((i:Int))))],[(716,some (.ints 2 .i64 (st))),(732,some (.rows 0 31 2 .i64 (grS gr0 st l i)))]⟩) (fun i=>i≤3∧n=3∧st.length=2∧l.length≤900) (fun i=>3 - i) (fun _=>noAnn))
 | _=>none
def grow1_G:List (Nat×Ctr):=[(137,⟨[],l01Has_ct⟩),(117,⟨[],l01Own_ct⟩),(164,⟨[(1,0),(2,0)],grow0_ct⟩)]
def grow1_V (n:Int) (st:List Int) (l:List (List Int)):Prop :=
 (BrP ((↑(st.length):Int) == n) ((room (l.length+[st].length))∧((l++[st]=gr1 st l)∧True)) ((∃x0:Nat,(((x0≤(3:Nat))∧((n=(3:Int))∧((st.length=(2:Nat))∧(l.length≤(900:Nat)))))∧((n=n)∧(((0:Int)=(↑x0:Int))∧((st=st)∧(l=grS gr0 st l x0))))))∧(∀x1:Nat,(((x1≤(3:Nat))∧((n=(3:Int))∧((st.length=(2:Nat))∧(l.length≤(900:Nat)))))→(BrP (decide ((↑x1:Int)<n)) (((st.length≤(1099511627776:Nat))∧True)∧(BrP (!decide ((↑x1:Int)∈st)) (((room (st.length))∧True)∧((room (st.length+[(↑x1:Int)].length))∧((((n=(3:Int))∧(((st++[(↑x1:Int)]).length=(3:Nat))∧((grS gr0 st l x1).length≤(1000:Nat))))∧(True∧(True∧True)))∧((InR ((↑x1:Int)+(1:Int)))∧(∃x2:Nat,(((x2≤(3:Nat))∧((n=(3:Int))∧((st.length=(2:Nat))∧(l.length≤(900:Nat)))))∧(((3:Nat) - x2<(3:Nat) - x1)∧((n=n)∧(((↑x1:Int)+(1:Int)=(↑x2:Int))∧((st=st)∧(gr0 (st++[(↑x1:Int)]) (grS gr0 st l x1)=grS gr0 st l x2))))))))))) ((InR ((↑x1:Int)+(1:Int)))∧(∃x3:Nat,(((x3≤(3:Nat))∧((n=(3:Int))∧((st.length=(2:Nat))∧(l.length≤(900:Nat)))))∧(((3:Nat) - x3<(3:Nat) - x1)∧((n=n)∧(((↑x1:Int)+(1:Int)=(↑x3:Int))∧((st=st)∧(grS gr0 st l x1=grS gr0 st l x3)))))))))) ((grS gr0 st l x1=gr1 st l)∧True))))))
theorem grow1_vc (n:Int) (st:List Int) (l:List (List Int)):runF Tryz.prog (gam grow1_G) noWr (grow1_ann n st l) Tryz.f164 (bodyOf Tryz.f164) [(1,0),(2,0)] [.c (.int .i64 (n)),.c (.ints .i64 (st)),.c (.rows .i64 (l))] (grow1_p n st l)=grow1_V n st l:=by kernel_rfl
theorem grow1_ok (n:Int) (st:List Int) (l:List (List Int)) (hpre:(grow1_p n st l).pre):grow1_V n st l:=by
 simp only [grow1_p,grow1_V,BrP_iff,u1,u2,u3,u4,u5,u6,u7,u8,u9,v1,v2,v3,v4,v5,v6,v7,v8,v9,w1,w2,w3,w4,markL_length,inB,InR,room,bdsOk] at hpre ⊢
 obtain ⟨h1,h2,h3⟩:=hpre
 refine ⟨fun h=>absurd h (by omega),fun _=>⟨⟨0,⟨by omega,h1,h2,h3⟩,rfl,rfl⟩,fun i ⟨hi,_⟩=>⟨fun h=>⟨by omega,fun g=>?_,fun g=>?_⟩,fun h=>?_⟩⟩⟩
 ·have L:=(grS_len gr0_len st l i).2
  refine ⟨by omega,by simp;omega,⟨by omega,by first | omega | (simp;omega),by omega⟩,by omega,i+1,⟨by omega,h1,h2,h3⟩,by omega,by omega,?_⟩
  rw [grS,if_neg (by simpa using g)]
 ·refine ⟨by omega,i+1,⟨by omega,h1,h2,h3⟩,by omega,by omega,?_⟩
  rw [grS,if_pos (by simpa using g)]
 ·have e:i=3:=by omega
  subst e;rfl
theorem grow1_fits:Fits Tryz.prog 164 ⟨[(1,0),(2,0)],grow1_ct⟩:=by
 refine ffn (Γ:=gam grow1_G) (gok_cons l01Has_fits (gok_cons l01Own_fits (gok_cons grow0_fits gok_nil))) Tryz.func164 fun ds p h hp=>?_
 unfold grow1_ct at h
 split at h
 ·cases h
  exact ⟨noWr,grow1_ann _ _ _ ,by rw [grow1_vc];exact grow1_ok _ _ _  hp⟩
 ·cases h
def grow2_p (n:Int) (st:List Int) (l:List (List Int)):Post:=⟨n=3∧st.length=1∧l.length≤800,.c (.rows 31 2 .i64 (gr2 st l)),[.gone (.ints 2 .i64 (st)),.gone (.rows 31 2 .i64 (l))]⟩
def grow2_ct:List AD→Option Post
 | [.c (.int .i64 (n)),.c (.ints .i64 (st)),.c (.rows .i64 (l))]=>some (grow2_p n st l)
 | _=>none
def grow2_ann (n:Int) (st:List Int) (l:List (List Int)):Nat→Option Ann
 | 0=>some (Ann.mk ((Nat)) (fun i=>⟨[(0,.c (.int .i64 (n))),(1,.c (.own (716))),(2,.c (.own (732))),(7,.c (.int .i64 ((i:Int))))],[(716,some (.ints 2 .i64 (st))),(732,some (.rows 0 31 2 .i64 (grS gr1 st l i)))]⟩) (fun i=>i≤3∧n=3∧st.length=1∧l.length≤800) (fun i=>3 - i) (fun _=>noAnn))
 | _=>none
def grow2_G:List (Nat×Ctr):=[(137,⟨[],l01Has_ct⟩),(117,⟨[],l01Own_ct⟩),(164,⟨[(1,0),(2,0)],grow1_ct⟩)]
def grow2_V (n:Int) (st:List Int) (l:List (List Int)):Prop :=
 (BrP ((↑(st.length):Int) == n) ((room (l.length+[st].length))∧((l++[st]=gr2 st l)∧True)) ((∃x0:Nat,(((x0≤(3:Nat))∧((n=(3:Int))∧((st.length=(1:Nat))∧(l.length≤(800:Nat)))))∧((n=n)∧(((0:Int)=(↑x0:Int))∧((st=st)∧(l=grS gr1 st l x0))))))∧(∀x1:Nat,(((x1≤(3:Nat))∧((n=(3:Int))∧((st.length=(1:Nat))∧(l.length≤(800:Nat)))))→(BrP (decide ((↑x1:Int)<n)) (((st.length≤(1099511627776:Nat))∧True)∧(BrP (!decide ((↑x1:Int)∈st)) (((room (st.length))∧True)∧((room (st.length+[(↑x1:Int)].length))∧((((n=(3:Int))∧(((st++[(↑x1:Int)]).length=(2:Nat))∧((grS gr1 st l x1).length≤(900:Nat))))∧(True∧(True∧True)))∧((InR ((↑x1:Int)+(1:Int)))∧(∃x2:Nat,(((x2≤(3:Nat))∧((n=(3:Int))∧((st.length=(1:Nat))∧(l.length≤(800:Nat)))))∧(((3:Nat) - x2<(3:Nat) - x1)∧((n=n)∧(((↑x1:Int)+(1:Int)=(↑x2:Int))∧((st=st)∧(gr1 (st++[(↑x1:Int)]) (grS gr1 st l x1)=grS gr1 st l x2))))))))))) ((InR ((↑x1:Int)+(1:Int)))∧(∃x3:Nat,(((x3≤(3:Nat))∧((n=(3:Int))∧((st.length=(1:Nat))∧(l.length≤(800:Nat)))))∧(((3:Nat) - x3<(3:Nat) - x1)∧((n=n)∧(((↑x1:Int)+(1:Int)=(↑x3:Int))∧((st=st)∧(grS gr1 st l x1=grS gr1 st l x3)))))))))) ((grS gr1 st l x1=gr2 st l)∧True))))))
theorem grow2_vc (n:Int) (st:List Int) (l:List (List Int)):runF Tryz.prog (gam grow2_G) noWr (grow2_ann n st l) Tryz.f164 (bodyOf Tryz.f164) [(1,0),(2,0)] [.c (.int .i64 (n)),.c (.ints .i64 (st)),.c (.rows .i64 (l))] (grow2_p n st l)=grow2_V n st l:=by kernel_rfl
theorem grow2_ok (n:Int) (st:List Int) (l:List (List Int)) (hpre:(grow2_p n st l).pre):grow2_V n st l:=by
 simp only [grow2_p,grow2_V,BrP_iff,u1,u2,u3,u4,u5,u6,u7,u8,u9,v1,v2,v3,v4,v5,v6,v7,v8,v9,w1,w2,w3,w4,markL_length,inB,InR,room,bdsOk] at hpre ⊢
 obtain ⟨h1,h2,h3⟩:=hpre
 refine ⟨fun h=>absurd h (by omega),fun _=>⟨⟨0,⟨by omega,h1,h2,h3⟩,rfl,rfl⟩,fun i ⟨hi,_⟩=>⟨fun h=>⟨by omega,fun g=>?_,fun g=>?_⟩,fun h=>?_⟩⟩⟩
 ·have L:=(grS_len gr1_len st l i).2
  refine ⟨by omega,by simp;omega,⟨by omega,by first | omega | (simp;omega),by omega⟩,by omega,i+1,⟨by omega,h1,h2,h3⟩,by omega,by omega,?_⟩
  rw [grS,if_neg (by simpa using g)]
 ·refine ⟨by omega,i+1,⟨by omega,h1,h2,h3⟩,by omega,by omega,?_⟩
  rw [grS,if_pos (by simpa using g)]
 ·have e:i=3:=by omega
  subst e;rfl
theorem grow2_fits:Fits Tryz.prog 164 ⟨[(1,0),(2,0)],grow2_ct⟩:=by
 refine ffn (Γ:=gam grow2_G) (gok_cons l01Has_fits (gok_cons l01Own_fits (gok_cons grow1_fits gok_nil))) Tryz.func164 fun ds p h hp=>?_
 unfold grow2_ct at h
 split at h
 ·cases h
  exact ⟨noWr,grow2_ann _ _ _ ,by rw [grow2_vc];exact grow2_ok _ _ _  hp⟩
 ·cases h
def grow3_p (n:Int) (st:List Int) (l:List (List Int)):Post:=⟨n=3∧st.length=0∧l.length≤700,.c (.rows 31 2 .i64 (gr3 st l)),[.gone (.ints 2 .i64 (st)),.gone (.rows 31 2 .i64 (l))]⟩
def grow3_ct:List AD→Option Post
 | [.c (.int .i64 (n)),.c (.ints .i64 (st)),.c (.rows .i64 (l))]=>some (grow3_p n st l)
 | _=>none
def grow3_ann (n:Int) (st:List Int) (l:List (List Int)):Nat→Option Ann
 | 0=>some (Ann.mk ((Nat)) (fun i=>⟨[(0,.c (.int .i64 (n))),(1,.c (.own (716))),(2,.c (.own (732))),(7,.c (.int .i64 ((i:Int))))],[(716,some (.ints 2 .i64 (st))),(732,some (.rows 0 31 2 .i64 (grS gr2 st l i)))]⟩) (fun i=>i≤3∧n=3∧st.length=0∧l.length≤700) (fun i=>3 - i) (fun _=>noAnn))
 | _=>none
def grow3_G:List (Nat×Ctr):=[(137,⟨[],l01Has_ct⟩),(117,⟨[],l01Own_ct⟩),(164,⟨[(1,0),(2,0)],grow2_ct⟩)]
def grow3_V (n:Int) (st:List Int) (l:List (List Int)):Prop :=
 (BrP ((↑(st.length):Int) == n) ((room (l.length+[st].length))∧((l++[st]=gr3 st l)∧True)) ((∃x0:Nat,(((x0≤(3:Nat))∧((n=(3:Int))∧((st.length=(0:Nat))∧(l.length≤(700:Nat)))))∧((n=n)∧(((0:Int)=(↑x0:Int))∧((st=st)∧(l=grS gr2 st l x0))))))∧(∀x1:Nat,(((x1≤(3:Nat))∧((n=(3:Int))∧((st.length=(0:Nat))∧(l.length≤(700:Nat)))))→(BrP (decide ((↑x1:Int)<n)) (((st.length≤(1099511627776:Nat))∧True)∧(BrP (!decide ((↑x1:Int)∈st)) (((room (st.length))∧True)∧((room (st.length+[(↑x1:Int)].length))∧((((n=(3:Int))∧(((st++[(↑x1:Int)]).length=(1:Nat))∧((grS gr2 st l x1).length≤(800:Nat))))∧(True∧(True∧True)))∧((InR ((↑x1:Int)+(1:Int)))∧(∃x2:Nat,(((x2≤(3:Nat))∧((n=(3:Int))∧((st.length=(0:Nat))∧(l.length≤(700:Nat)))))∧(((3:Nat) - x2<(3:Nat) - x1)∧((n=n)∧(((↑x1:Int)+(1:Int)=(↑x2:Int))∧((st=st)∧(gr2 (st++[(↑x1:Int)]) (grS gr2 st l x1)=grS gr2 st l x2))))))))))) ((InR ((↑x1:Int)+(1:Int)))∧(∃x3:Nat,(((x3≤(3:Nat))∧((n=(3:Int))∧((st.length=(0:Nat))∧(l.length≤(700:Nat)))))∧(((3:Nat) - x3<(3:Nat) - x1)∧((n=n)∧(((↑x1:Int)+(1:Int)=(↑x3:Int))∧((st=st)∧(grS gr2 st l x1=grS gr2 st l x3)))))))))) ((grS gr2 st l x1=gr3 st l)∧True))))))
theorem grow3_vc (n:Int) (st:List Int) (l:List (List Int)):runF Tryz.prog (gam grow3_G) noWr (grow3_ann n st l) Tryz.f164 (bodyOf Tryz.f164) [(1,0),(2,0)] [.c (.int .i64 (n)),.c (.ints .i64 (st)),.c (.rows .i64 (l))] (grow3_p n st l)=grow3_V n st l:=by kernel_rfl
theorem grow3_ok (n:Int) (st:List Int) (l:List (List Int)) (hpre:(grow3_p n st l).pre):grow3_V n st l:=by
 simp only [grow3_p,grow3_V,BrP_iff,u1,u2,u3,u4,u5,u6,u7,u8,u9,v1,v2,v3,v4,v5,v6,v7,v8,v9,w1,w2,w3,w4,markL_length,inB,InR,room,bdsOk] at hpre ⊢
 obtain ⟨h1,h2,h3⟩:=hpre
 refine ⟨fun h=>absurd h (by omega),fun _=>⟨⟨0,⟨by omega,h1,h2,h3⟩,rfl,rfl⟩,fun i ⟨hi,_⟩=>⟨fun h=>⟨by omega,fun g=>?_,fun g=>?_⟩,fun h=>?_⟩⟩⟩
 ·have L:=(grS_len gr2_len st l i).2
  refine ⟨by omega,by simp;omega,⟨by omega,by first | omega | (simp;omega),by omega⟩,by omega,i+1,⟨by omega,h1,h2,h3⟩,by omega,by omega,?_⟩
  rw [grS,if_neg (by simpa using g)]
 ·refine ⟨by omega,i+1,⟨by omega,h1,h2,h3⟩,by omega,by omega,?_⟩
  rw [grS,if_pos (by simpa using g)]
 ·have e:i=3:=by omega
  subst e;rfl
theorem grow3_fits:Fits Tryz.prog 164 ⟨[(1,0),(2,0)],grow3_ct⟩:=by
 refine ffn (Γ:=gam grow3_G) (gok_cons l01Has_fits (gok_cons l01Own_fits (gok_cons grow2_fits gok_nil))) Tryz.func164 fun ds p h hp=>?_
 unfold grow3_ct at h
 split at h
 ·cases h
  exact ⟨noWr,grow3_ann _ _ _ ,by rw [grow3_vc];exact grow3_ok _ _ _  hp⟩
 ·cases h
def perms3:List (List Int):=[[0,1,2],[0,2,1],[1,0,2],[1,2,0],[2,0,1],[2,1,0]]
theorem perms3_eq:gr3 [] []=perms3:=by decide
def l01Perms3_p (n:Int):Post:=⟨n=3,.c (.rows 31 2 .i64 (perms3)),[]⟩
def l01Perms3_ct:List AD→Option Post
 | [.c (.int .i64 (n))]=>some (l01Perms3_p n)
 | _=>none
def l01Perms3_G:List (Nat×Ctr):=[(164,⟨[(1,0),(2,0)],grow3_ct⟩)]
def l01Perms3_V (n:Int):Prop :=
 ((((n=(3:Int))∧((([]:List Int).length=(0:Nat))∧(([]:List Int).length≤(700:Nat))))∧(True∧(True∧True)))∧((gr3 [] []=perms3)∧True))
theorem l01Perms3_vc (n:Int):runF Tryz.prog (gam l01Perms3_G) noWr noAnn Tryz.f149 (bodyOf Tryz.f149) [] [.c (.int .i64 (n))] (l01Perms3_p n)=l01Perms3_V n:=by kernel_rfl
theorem l01Perms3_ok (n:Int) (hpre:(l01Perms3_p n).pre):l01Perms3_V n:=by
 simp only [l01Perms3_p,l01Perms3_V,BrP_iff,u1,u2,u3,u4,u5,u6,u7,u8,u9,v1,v2,v3,v4,v5,v6,v7,v8,v9,w1,w2,w3,w4,markL_length,inB,InR,room,bdsOk] at hpre ⊢
 exact ⟨⟨hpre,by omega⟩,perms3_eq⟩
theorem l01Perms3_fits:Fits Tryz.prog 149 ⟨[],l01Perms3_ct⟩:=by
 refine ffn (Γ:=gam l01Perms3_G) (gok_cons grow3_fits gok_nil) Tryz.func149 fun ds p h hp=>?_
 unfold l01Perms3_ct at h
 split at h
 ·cases h
  exact ⟨noWr,noAnn,by rw [l01Perms3_vc];exact l01Perms3_ok _  hp⟩
 ·cases h
def bkN (p:List Int):Nat→List Int
 | 0=>List.replicate p.length 0
 | i+1=>(bkN p i).set (p.getD i 0).toNat (i:Int)
def bkL (p:List Int):List Int:=bkN p p.length
def thL (p q:List Int):List Int:=p.map fun x=>q.getD x.toNat 0
theorem bkN_length (p:List Int):∀i,(bkN p i).length=p.length
 | 0=>by simp [bkN]
 | i+1=>by rw [bkN,List.length_set,bkN_length p i]
def inQ (n:Nat) (p:List Int):Prop:=∀i,i<p.length→0≤p.getD i 0∧p.getD i 0<(n:Int)
def l01BackG_p (p:List Int):Post:=⟨room p.length∧inQ p.length p,.c (.ints 2 .i64 (bkL p)),[]⟩
def l01BackG_ct:List AD→Option Post
 | [.c (.ints .i64 (p))]=>some (l01BackG_p p)
 | _=>none
def l01BackG_ann (p:List Int):Nat→Option Ann
 | 0=>some (Ann.mk ((Nat)) (fun i=>⟨[(0,.c (.ro (.ints .i64 (p)))),(3,.c (.own (10))),(4,.c (.int .i64 ((i:Int))))],[(10,some (.ints 2 .i64 (bkN p i)))]⟩) (fun i=>i≤p.length) (fun i=>p.length - i) (fun _=>noAnn))
 | _=>none
def l01BackG_G:List (Nat×Ctr):=[]
def l01BackG_V (p:List Int):Prop :=
 ((((0:Int)≤(↑(p.length):Int))∧(((↑(p.length):Int)≤(↑(p.length):Int))∧(room ((↑(p.length):Int).toNat))))∧((∃x0:Nat,((x0≤p.length)∧((p=p)∧(((0:Int)=(↑x0:Int))∧(List.replicate ((↑(p.length):Int).toNat) (0:Int)=bkN p x0)))))∧(∀x1:Nat,((x1≤p.length)→(BrP (decide ((↑x1:Int)<(↑(p.length):Int))) ((inB (↑x1:Int) (p.length))∧((inB (p.getD ((↑x1:Int).toNat) (0:Int)) ((bkN p x1).length))∧((InR ((↑x1:Int)+(1:Int)))∧(∃x2:Nat,((x2≤p.length)∧((p.length - x2<p.length - x1)∧((p=p)∧(((↑x1:Int)+(1:Int)=(↑x2:Int))∧(List.set (bkN p x1) ((p.getD ((↑x1:Int).toNat) (0:Int)).toNat) (↑x1:Int)=bkN p x2))))))))) ((bkN p x1=bkL p)∧True))))))
theorem l01BackG_vc (p:List Int):runF Tryz.prog (gam l01BackG_G) noWr (l01BackG_ann p) Tryz.f99 (bodyOf Tryz.f99) [] [.c (.ints .i64 (p))] (l01BackG_p p)=l01BackG_V p:=by kernel_rfl
theorem l01BackG_ok (p:List Int) (hpre:(l01BackG_p p).pre):l01BackG_V p:=by
 simp only [l01BackG_p,l01BackG_V,BrP_iff,u1,u2,u3,u4,u5,u6,u7,u8,u9,v1,v2,v3,v4,v5,v6,v7,v8,v9,w1,w2,w3,w4,markL_length,inB,InR,room,bdsOk] at hpre ⊢
 obtain ⟨h1,h2⟩:=hpre
 refine ⟨by omega,⟨0,by omega,rfl,rfl⟩,fun i hi=>⟨fun h=>?_,fun h=>?_⟩⟩
 ·have hr:=h2 i (by omega)
  rw [bkN_length]
  exact ⟨by omega,by omega,by omega,i+1,by omega,by omega,by omega,rfl⟩
 ·rw [show i=p.length by omega];rfl
theorem l01BackG_fits:Fits Tryz.prog 99 ⟨[],l01BackG_ct⟩:=by
 refine ffn (Γ:=gam l01BackG_G) gok_nil Tryz.func99 fun ds p h hp=>?_
 unfold l01BackG_ct at h
 split at h
 ·cases h
  exact ⟨noWr,l01BackG_ann _ ,by rw [l01BackG_vc];exact l01BackG_ok _  hp⟩
 ·cases h
def l01ThenG_p (p:List Int) (q:List Int):Post:=⟨room p.length∧inQ q.length p,.c (.ints 2 .i64 (thL p q)),[]⟩
def l01ThenG_ct:List AD→Option Post
 | [.c (.ints .i64 (p)),.c (.ints .i64 (q))]=>some (l01ThenG_p p q)
 | _=>none
def l01ThenG_ann (p:List Int) (q:List Int):Nat→Option Ann
 | 0=>some (Ann.mk ((Nat)) (fun i=>⟨[(0,.c (.ro (.ints .i64 (p)))),(1,.c (.ro (.ints .i64 (q)))),(5,.c (.own (10))),(6,.c (.int .i64 ((i:Int))))],[(10,some (.ints 2 .i64 (thL (p.take i) q)))]⟩) (fun i=>i≤p.length) (fun i=>p.length - i) (fun _=>noAnn))
 | _=>none
def l01ThenG_G:List (Nat×Ctr):=[]
def l01ThenG_V (p:List Int) (q:List Int):Prop :=
 ((∃x0:Nat,((x0≤p.length)∧((p=p)∧((q=q)∧(((0:Int)=(↑x0:Int))∧([]=thL (List.take x0 p) q))))))∧(∀x1:Nat,((x1≤p.length)→(BrP (decide ((↑x1:Int)<(↑(p.length):Int))) ((inB (↑x1:Int) (p.length))∧((inB (p.getD ((↑x1:Int).toNat) (0:Int)) (q.length))∧((room ((thL (List.take x1 p) q).length+[q.getD ((p.getD ((↑x1:Int).toNat) (0:Int)).toNat) (0:Int)].length))∧((InR ((↑x1:Int)+(1:Int)))∧(∃x2:Nat,((x2≤p.length)∧((p.length - x2<p.length - x1)∧((p=p)∧((q=q)∧(((↑x1:Int)+(1:Int)=(↑x2:Int))∧(thL (List.take x1 p) q++[q.getD ((p.getD ((↑x1:Int).toNat) (0:Int)).toNat) (0:Int)]=thL (List.take x2 p) q))))))))))) ((thL (List.take x1 p) q=thL p q)∧True)))))
theorem l01ThenG_vc (p:List Int) (q:List Int):runF Tryz.prog (gam l01ThenG_G) noWr (l01ThenG_ann p q) Tryz.f101 (bodyOf Tryz.f101) [] [.c (.ints .i64 (p)),.c (.ints .i64 (q))] (l01ThenG_p p q)=l01ThenG_V p q:=by kernel_rfl
theorem l01ThenG_ok (p:List Int) (q:List Int) (hpre:(l01ThenG_p p q).pre):l01ThenG_V p q:=by
 simp only [l01ThenG_p,l01ThenG_V,BrP_iff,u1,u2,u3,u4,u5,u6,u7,u8,u9,v1,v2,v3,v4,v5,v6,v7,v8,v9,w1,w2,w3,w4,markL_length,inB,InR,room,bdsOk] at hpre ⊢
 obtain ⟨h1,h2⟩:=hpre
 refine ⟨⟨0,by omega,rfl,rfl⟩,fun i hi=>⟨fun h=>?_,fun h=>?_⟩⟩
 ·have hr:=h2 i (by omega)
  have hl:(thL (p.take i) q).length=i:=by rw [thL,List.length_map,List.length_take];omega
  refine ⟨by omega,by omega,by omega,by omega,i+1,by omega,by omega,by omega,?_⟩
  rw [←take_snoc p 0 i (by omega),thL,thL,List.map_append];rfl
 ·rw [List.take_of_length_le (by omega)]
theorem l01ThenG_fits:Fits Tryz.prog 101 ⟨[],l01ThenG_ct⟩:=by
 refine ffn (Γ:=gam l01ThenG_G) gok_nil Tryz.func101 fun ds p h hp=>?_
 unfold l01ThenG_ct at h
 split at h
 ·cases h
  exact ⟨noWr,l01ThenG_ann _ _ ,by rw [l01ThenG_vc];exact l01ThenG_ok _ _  hp⟩
 ·cases h
end Go.Sx
end
section
open Go Go.Proofs
namespace Go.Sx
set_option linter.unusedSimpArgs false
set_option linter.unusedVariables false
def mxF (k:Int) (A B:List (List Int)) (p:List Int) (x y:Nat):Int :=
 if (x:Int)<k∧(y:Int)<k then (A.getD x []).getD y 0
 else if (x:Int) ≥ k∧(y:Int) ≥ k then k+p.getD ((B.getD ((x:Int) - k).toNat []).getD ((y:Int) - k).toNat 0).toNat 0 else (y:Int)
def mx1 (k:Int):Int:=if k > 1 then k else 1
def tlA (k:Int):List (List Int):=alT (mx1 k) (mx1 k - 1) ((2:Int).tmod (mx1 k))
def tlB (n k:Int):List (List Int):=alT (n - k) ((1:Int).tmod (n - k)) 0
abbrev Dr:=List (List Int)×Int×Int
def tlK (code:List Int) (n k a h:Int):Dr :=
 if k=0 then (tlB n k,a,h)
 else (tabR n.toNat (mxF k (tlA k) (tlB n k) (dpS code a h (n - k).toNat).1),(dpS code a h (n - k).toNat).2)
def drTail (code:List Int) (n a h:Int):Dr:=tlK code n (nxV code a h n) (nxA code.length a n) (nxH h n)
def tryC (code:List Int) (n:Int):Nat→Int→Int→Option Int×Int×Int
 | 0,a,h=>(none,a,h)
 | j+1,a,h=>if cpD (nxV code a h n) n (n - 1).toNat 2=true then (some (nxV code a h n),nxA code.length a n,nxH h n) else tryC code n j (nxA code.length a n) (nxH h n)
def drC (code:List Int) (n:Int):Option Int×Int×Int→Dr
 | (some v,s)=>(alT n v ((1 - v+n).tmod n),s)
 | (none,s)=>drTail code n s.1 s.2
def tri3:List (List Int):=[[0,2,1],[1,0,2],[2,1,0]]
def fIx (z:List Int):List (List Int)→Nat
 | []=>0
 | a::r=>if a=z then 0 else fIx z r+1
def cjZ (A:List (List Int)) (x y:Nat):List Int:=thL (thL (bkL (A.getD x [])) (A.getD y [])) (A.getD x [])
def cjF (A:List (List Int)) (x y:Nat):Int:=(fIx (cjZ A x y) A:Int)
def cjT (A:List (List Int)):List (List Int):=tabR A.length (cjF A)
def cjOk (A:List (List Int)):Bool :=
 decide (A.length≤6)&&decide (1≤A.length)&&(List.range A.length).all fun x=>decide ((A.getD x []).length=3)&&(A.getD x []).all (fun v=>decide (0≤v∧v<3))&&(List.range A.length).all fun y=>decide (fIx (cjZ A x y) A<A.length) &&
  ((thL (bkL (A.getD x [])) (A.getD y [])).length == 3&&(thL (bkL (A.getD x [])) (A.getD y [])).all (fun v=>decide (0≤v∧v<3))&&((bkL (A.getD x [])).length == 3&&(bkL (A.getD x [])).all (fun v=>decide (0≤v∧v<3))))&&(cjZ A x y).length == 3
theorem cjOk_p:cjOk perms3=true:=by decide
theorem cjOk_t:cjOk tri3=true:=by decide
structure CjOk (A:List (List Int)):Prop where
 le:A.length≤6
 ge:1≤A.length
 len:∀x,x<A.length→(A.getD x []).length=3
 el:∀x,x<A.length→inQ 3 (A.getD x [])
 at_:∀x y,x<A.length→y<A.length→fIx (cjZ A x y) A<A.length
 th:∀x y,x<A.length→y<A.length→(thL (bkL (A.getD x [])) (A.getD y [])).length=3∧inQ 3 (thL (bkL (A.getD x [])) (A.getD y []))
 bk:∀x,x<A.length→(bkL (A.getD x [])).length=3∧inQ 3 (bkL (A.getD x []))
 z:∀x y,x<A.length→y<A.length→(cjZ A x y).length=3
theorem cjOk_of {A:List (List Int)} (h:cjOk A=true):CjOk A:=by
 simp only [cjOk,Bool.and_eq_true,decide_eq_true_eq,List.all_eq_true,List.mem_range,beq_iff_eq] at h
 obtain ⟨⟨h1,h2⟩,h3⟩:=h
 refine ⟨h1,h2,fun x hx=>(h3 x hx).1.1,fun x hx i hi=>?_,fun x y hx hy=>((h3 x hx).2 y hy).1.1,fun x y hx hy=>⟨((h3 x hx).2 y hy).1.2.1.1,fun i hi=>?_⟩,fun x hx=>⟨((h3 x hx).2 x hx).1.2.2.1,fun i hi=>?_⟩,fun x y hx hy=>((h3 x hx).2 y hy).2⟩
 ·exact (h3 x hx).1.2 _ (getD_mem _ 0 i hi)
 ·exact ((h3 x hx).2 y hy).1.2.1.2 _ (getD_mem _ 0 i hi)
 ·exact ((h3 x hx).2 x hx).1.2.2.2 _ (getD_mem _ 0 i hi)
theorem fIx_at (z:List Int):∀(A:List (List Int)),fIx z A<A.length→A.getD (fIx z A) []=z∧∀i,i<fIx z A→A.getD i []≠z
 | [],h=>by simp at h
 | a::r,h=>by
  unfold fIx at h ⊢
  split
  ·rename_i e;exact ⟨e,fun i hi=>by omega⟩
  ·rename_i e
   rw [if_neg e] at h
   obtain ⟨a1,a2⟩:=fIx_at z r (by simpa using h)
   refine ⟨by simpa using a1,fun i hi=>?_⟩
   cases i with
   | zero=>exact e
   | succ i=>simpa using a2 i (by omega)
def drN (code:List Int) (most n c a h:Int):Dr :=
 if c=0 then (List.replicate n.toNat (dpS code a h n.toNat).1,(dpS code a h n.toNat).2)
 else if c=1 then (alT n (n - 1) ((2:Int).tmod n),a,h)
 else if c=2 then drC code n (tryC code n 6 a h)
 else if c=3∧6≤most then (cjT (if nxV code a h 2=0 then tri3 else perms3),nxA code.length a 2,nxH h 2)
 else drTail code n a h
def drT (code:List Int) (a h most:Int):Dr :=
 drN code most (1+nxV code a h most) (nxV code (nxA code.length a most) (nxH h most) 5) (nxA code.length (nxA code.length a most) 5) (nxH (nxH h most) 5)
def l03DrawTable_p (code:List Int) (a:Int) (h:Int) (most:Int):Post:=⟨bytesB code∧code.length≤4096∧0≤a∧a≤(code.length:Int)∧1≤most∧most≤6,.c (.rows 31 2 .i64 ((drT code a h most).1)),[.bx [.ints .u8 (code),.int .i64 ((drT code a h most).2.1),.int .u64 ((drT code a h most).2.2)]]⟩
def l03DrawTable_ct:List AD→Option Post
 | [.box [.ints .u8 (code),.int .i64 (a),.int .u64 (h)],.c (.int .i64 (most))]=>some (l03DrawTable_p code a h most)
 | _=>none
def l03DrawTable_ann (code:List Int) (a:Int) (h:Int) (most:Int):Nat→Option Ann
 | 1=>some (Ann.mk ((Nat)×(Int)×(List Int)×(Int)×(Int)) (fun x=>match x with | (i,n,p,b,g)=>⟨[(0,.c (.ptr 700 0)),(1,.c (.int .i64 (most))),(5,.c (.int .i64 (n))),(6,.c (.own (36))),(7,.c (.own (37))),(8,.c (.int .i64 ((i:Int))))],[(700,some (.box [.orig 700 0 (.ints .u8 (code)),.int .i64 (b),.int .u64 (g)])),(36,some (.ints 2 .i64 (p))),(37,some (.rows 0 31 2 .i64 (List.replicate i p)))]⟩) (fun x=>match x with | (i,n,p,b,g)=>(i:Int)≤n∧1≤n∧n≤6∧p.length≤6∧drT code a h most=(List.replicate n.toNat p,b,g)) (fun x=>match x with | (i,n,p,b,g)=>n.toNat - i) (fun _=>noAnn))
 | 3=>some (Ann.mk ((Nat)×(Int)×(Int)×(Int)) (fun x=>match x with | (j,n,b,g)=>⟨[(0,.c (.ptr 700 0)),(1,.c (.int .i64 (most))),(5,.c (.int .i64 (n))),(9,.c (.int .i64 ((j:Int))))],[(700,some (.box [.orig 700 0 (.ints .u8 (code)),.int .i64 (b),.int .u64 (g)]))]⟩) (fun x=>match x with | (j,n,b,g)=>j≤6∧1≤n∧n≤6∧0≤b∧b≤(code.length:Int)∧drT code a h most=drC code n (tryC code n (6 - j) b g)) (fun x=>match x with | (j,n,b,g)=>6 - j) (fun _=>noAnn))
 | 5=>some (Ann.mk ((Nat)×(List (List Int))×(Int)×(Int)) (fun x=>match x with | (x,A,b,g)=>⟨[(0,.c (.ptr 700 0)),(11,.c (.own (90))),(12,.c (.own (83))),(13,.c (.int .i64 ((x:Int))))],[(700,some (.box [.orig 700 0 (.ints .u8 (code)),.int .i64 (b),.int .u64 (g)])),(90,some (.lst 0 31 (.rows .i64 (A)))),(83,some (.rows 0 31 2 .i64 ((cjT A).take x)))]⟩) (fun x=>match x with | (x,A,b,g)=>x≤A.length∧CjOk A∧drT code a h most=(cjT A,b,g)) (fun x=>match x with | (x,A,b,g)=>A.length - x) (fun x=>match x with | (x,A,b,g)=>fun b_=>match b_ with | 7=>some (Ann.mk ((Nat)) (fun y=>⟨[(0,.c (.ptr 700 0)),(11,.c (.own (90))),(12,.c (.own (83))),(13,.c (.int .i64 ((x:Int)))),(14,.c (.own (97))),(15,.c (.int .i64 ((y:Int))))],[(700,some (.box [.orig 700 0 (.ints .u8 (code)),.int .i64 (b),.int .u64 (g)])),(90,some (.lst 0 31 (.rows .i64 (A)))),(83,some (.rows 0 31 2 .i64 ((cjT A).take x))),(97,some (.ints 2 .i64 ((tab A.length (cjF A x)).take y)))]⟩) (fun y=>y≤A.length∧x<A.length) (fun y=>A.length - y) (fun y=>fun b_=>match b_ with | 9=>some (Ann.mk ((Nat)) (fun i=>⟨[(0,.c (.ptr 700 0)),(11,.c (.own (90))),(12,.c (.own (83))),(13,.c (.int .i64 ((x:Int)))),(14,.c (.own (97))),(15,.c (.int .i64 ((y:Int)))),(16,.c (.own (118))),(17,.c (.int .i64 ((i:Int))))],[(700,some (.box [.orig 700 0 (.ints .u8 (code)),.int .i64 (b),.int .u64 (g)])),(90,some (.lst 0 31 (.rows .i64 (A)))),(83,some (.rows 0 31 2 .i64 ((cjT A).take x))),(97,some (.ints 2 .i64 ((tab A.length (cjF A x)).take y))),(118,some (.ints 2 .i64 (cjZ A x y)))]⟩) (fun i=>i≤fIx (cjZ A x y) A∧y<A.length) (fun i=>A.length - i) (fun _=>noAnn)) | _=>none)) | _=>none))
 | 11=>some (Ann.mk ((Nat)×(Int)×(Int)×(List (List Int))×(List (List Int))×(List Int)×(Int)×(Int)) (fun x=>match x with | (i,n,k,A,B,p,b,g)=>⟨[(0,.c (.ptr 700 0)),(5,.c (.int .i64 (n))),(18,.c (.int .i64 (k))),(19,.c (.own (148))),(20,.c (.own (156))),(21,.c (.own (164))),(22,.c (.own (165))),(23,.c (.int .i64 ((i:Int))))],[(700,some (.box [.orig 700 0 (.ints .u8 (code)),.int .i64 (b),.int .u64 (g)])),(148,some (.rows 0 31 2 .i64 (A))),(156,some (.rows 0 31 2 .i64 (B))),(164,some (.ints 2 .i64 (p))),(165,some (.rows 0 31 2 .i64 ((tabR n.toNat (mxF k A B p)).take i)))]⟩) (fun x=>match x with | (i,n,k,A,B,p,b,g)=>(i:Int)≤n∧1≤k∧k<n∧n≤6∧sqB k A∧sqB (n - k) B∧(p.length:Int)=n - k∧(∀x∈p,0≤x∧x≤n - k - 1)∧drT code a h most=(tabR n.toNat (mxF k A B p),b,g)) (fun x=>match x with | (i,n,k,A,B,p,b,g)=>n.toNat - i) (fun x=>match x with | (i,n,k,A,B,p,b,g)=>fun b_=>match b_ with | 13=>some (Ann.mk ((Nat)) (fun j=>⟨[(0,.c (.ptr 700 0)),(5,.c (.int .i64 (n))),(18,.c (.int .i64 (k))),(19,.c (.own (148))),(20,.c (.own (156))),(21,.c (.own (164))),(22,.c (.own (165))),(23,.c (.int .i64 ((i:Int)))),(24,.c (.own (171))),(25,.c (.int .i64 ((j:Int))))],[(700,some (.box [.orig 700 0 (.ints .u8 (code)),.int .i64 (b),.int .u64 (g)])),(148,some (.rows 0 31 2 .i64 (A))),(156,some (.rows 0 31 2 .i64 (B))),(164,some (.ints 2 .i64 (p))),(165,some (.rows 0 31 2 .i64 ((tabR n.toNat (mxF k A B p)).take i))),(171,some (.ints 2 .i64 ((tab n.toNat (mxF k A B p i)).take j)))]⟩) (fun j=>(j:Int)≤n∧(i:Int)<n) (fun j=>n.toNat - j) (fun _=>noAnn)) | _=>none))
 | _=>none
def l03DrawTable_wr (t:Nat):Bool:=[1000090].contains t
def l03DrawTable_G:List (Nat×Ctr):=[(47,⟨[(0,0)],l01Next_ct⟩),(88,⟨[(0,0)],l03DrawPerm_ct⟩),(117,⟨[],l01Own_ct⟩),(147,⟨[],l03Alexander_ct⟩),(148,⟨[],l03Coprime_ct⟩),(149,⟨[],l01Perms3_ct⟩),(99,⟨[],l01BackG_ct⟩),(101,⟨[],l01ThenG_ct⟩),(118,⟨[],l01Same_ct⟩)]
def l03DrawTable_c1 (x0:Nat×Int×Int×List (List Int)×List (List Int)×List Int×Int×Int):=(tab (x0.2.1.toNat) (mxF x0.2.2.1 x0.2.2.2.1 x0.2.2.2.2.1 x0.2.2.2.2.2.1 x0.1))
def l03DrawTable_c2 (x0:Nat×Int×Int×List (List Int)×List (List Int)×List Int×Int×Int):=(tabR (x0.2.1.toNat) (mxF x0.2.2.1 x0.2.2.2.1 x0.2.2.2.2.1 x0.2.2.2.2.2.1))
def l03DrawTable_c3 (x0:Nat×Int×Int×List (List Int)×List (List Int)×List Int×Int×Int) (x1:Nat):=((List.getD x0.2.2.2.2.1 (((↑x0.1:Int) - x0.2.2.1).toNat) []).getD (((↑x1:Int) - x0.2.2.1).toNat) (0:Int))
def l03DrawTable_V1 (code:List Int) (a:Int) (h:Int) (most:Int):Prop :=
 ∀x0:Nat×Int×Int×List (List Int)×List (List Int)×List Int×Int×Int,((((↑(x0.1):Int)≤x0.2.1)∧(((1:Int)≤x0.2.2.1)∧((x0.2.2.1<x0.2.1)∧((x0.2.1≤(6:Int))∧((sqB (x0.2.2.1) (x0.2.2.2.1))∧((sqB (x0.2.1 - x0.2.2.1) (x0.2.2.2.2.1))∧(((↑((x0.2.2.2.2.2.1).length):Int)=x0.2.1 - x0.2.2.1)∧((∀(x:Int),x∈x0.2.2.2.2.2.1→(0:Int)≤x∧x≤x0.2.1 - x0.2.2.1 - (1:Int))∧(drT code a h most=(tabR ((x0.2.1).toNat) (mxF (x0.2.2.1) (x0.2.2.2.1) (x0.2.2.2.2.1) (x0.2.2.2.2.2.1)),x0.2.2.2.2.2.2.1,x0.2.2.2.2.2.2.2))))))))))→(BrP (decide ((↑x0.1:Int)<x0.2.1)) ((∃x1:Nat,((((↑x1:Int)≤x0.2.1)∧((↑x0.1:Int)<x0.2.1))∧((x0.2.1=x0.2.1)∧((x0.2.2.1=x0.2.2.1)∧(((↑x0.1:Int)=(↑x0.1:Int))∧(((0:Int)=(↑x1:Int))∧((code=code)∧((x0.2.2.2.2.2.2.1=x0.2.2.2.2.2.2.1)∧((x0.2.2.2.2.2.2.2=x0.2.2.2.2.2.2.2)∧((x0.2.2.2.1=x0.2.2.2.1)∧((x0.2.2.2.2.1=x0.2.2.2.2.1)∧((x0.2.2.2.2.2.1=x0.2.2.2.2.2.1)∧((List.take x0.1 (l03DrawTable_c2 x0)=List.take x0.1 (l03DrawTable_c2 x0))∧([]=List.take x1 (l03DrawTable_c1 x0)))))))))))))))∧(∀x2:Nat,((((↑x2:Int)≤x0.2.1)∧((↑x0.1:Int)<x0.2.1))→(BrP (decide ((↑x2:Int)<x0.2.1)) (BrP (decide ((↑x0.1:Int)<x0.2.2.1)) (BrP (decide ((↑x2:Int)<x0.2.2.1)) ((inB (↑x0.1:Int) (x0.2.2.2.1.length))∧((inB (↑x2:Int) ((x0.2.2.2.1.getD ((↑x0.1:Int).toNat) []).length))∧((room ((List.take x2 (l03DrawTable_c1 x0)).length+[(List.getD x0.2.2.2.1 ((↑x0.1:Int).toNat) []).getD ((↑x2:Int).toNat) (0:Int)].length))∧((InR ((↑x2:Int)+(1:Int))) ∧
 (∃x3:Nat,((((↑x3:Int)≤x0.2.1)∧((↑x0.1:Int)<x0.2.1))∧((x0.2.1.toNat - x3<x0.2.1.toNat - x2)∧((x0.2.1=x0.2.1)∧((x0.2.2.1=x0.2.2.1)∧(((↑x0.1:Int)=(↑x0.1:Int))∧(((↑x2:Int)+(1:Int)=(↑x3:Int))∧((code=code)∧((x0.2.2.2.2.2.2.1=x0.2.2.2.2.2.2.1)∧((x0.2.2.2.2.2.2.2=x0.2.2.2.2.2.2.2)∧((x0.2.2.2.1=x0.2.2.2.1)∧((x0.2.2.2.2.1=x0.2.2.2.2.1)∧((x0.2.2.2.2.2.1=x0.2.2.2.2.2.1)∧((List.take x0.1 (l03DrawTable_c2 x0)=List.take x0.1 (l03DrawTable_c2 x0))∧(List.take x2 (l03DrawTable_c1 x0)++[(List.getD x0.2.2.2.1 ((↑x0.1:Int).toNat) []).getD ((↑x2:Int).toNat) (0:Int)]=List.take x3 (l03DrawTable_c1 x0)))))))))))))))))))) (BrP (decide (x0.2.2.1≤(↑x0.1:Int))) (BrP (decide (x0.2.2.1≤(↑x2:Int))) ((InR ((↑x0.1:Int) - x0.2.2.1))∧((inB ((↑x0.1:Int) - x0.2.2.1) (x0.2.2.2.2.1.length))∧((InR ((↑x2:Int) - x0.2.2.1))∧((inB ((↑x2:Int) - x0.2.2.1) ((x0.2.2.2.2.1.getD (((↑x0.1:Int) - x0.2.2.1).toNat) []).length))∧((inB (l03DrawTable_c3 x0 x2) (x0.2.2.2.2.2.1.length))∧((InR (x0.2.2.1+x0.2.2.2.2.2.1.getD ((l03DrawTable_c3 x0 x2).toNat) (0:Int)))∧((room ((List.take x2 (l03DrawTable_c1 x0)).length+[x0.2.2.1+x0.2.2.2.2.2.1.getD ((l03DrawTable_c3 x0 x2).toNat) (0:Int)].length))∧((InR ((↑x2:Int)+(1:Int)))∧(∃x4:Nat,((((↑x4:Int)≤x0.2.1)∧((↑x0.1:Int)<x0.2.1))∧((x0.2.1.toNat - x4<x0.2.1.toNat - x2)∧((x0.2.1=x0.2.1)∧((x0.2.2.1=x0.2.2.1)∧(((↑x0.1:Int)=(↑x0.1:Int))∧(((↑x2:Int)+(1:Int)=(↑x4:Int))∧((code=code)∧((x0.2.2.2.2.2.2.1=x0.2.2.2.2.2.2.1) ∧
 ((x0.2.2.2.2.2.2.2=x0.2.2.2.2.2.2.2)∧((x0.2.2.2.1=x0.2.2.2.1)∧((x0.2.2.2.2.1=x0.2.2.2.2.1)∧((x0.2.2.2.2.2.1=x0.2.2.2.2.2.1)∧((List.take x0.1 (l03DrawTable_c2 x0)=List.take x0.1 (l03DrawTable_c2 x0))∧(List.take x2 (l03DrawTable_c1 x0)++[x0.2.2.1+x0.2.2.2.2.2.1.getD ((l03DrawTable_c3 x0 x2).toNat) (0:Int)]=List.take x4 (l03DrawTable_c1 x0)))))))))))))))))))))))) ((room ((List.take x2 (l03DrawTable_c1 x0)).length+[(↑x2:Int)].length))∧((InR ((↑x2:Int)+(1:Int)))∧(∃x5:Nat,((((↑x5:Int)≤x0.2.1)∧((↑x0.1:Int)<x0.2.1))∧((x0.2.1.toNat - x5<x0.2.1.toNat - x2)∧((x0.2.1=x0.2.1)∧((x0.2.2.1=x0.2.2.1)∧(((↑x0.1:Int)=(↑x0.1:Int))∧(((↑x2:Int)+(1:Int)=(↑x5:Int))∧((code=code)∧((x0.2.2.2.2.2.2.1=x0.2.2.2.2.2.2.1)∧((x0.2.2.2.2.2.2.2=x0.2.2.2.2.2.2.2)∧((x0.2.2.2.1=x0.2.2.2.1)∧((x0.2.2.2.2.1=x0.2.2.2.2.1)∧((x0.2.2.2.2.2.1=x0.2.2.2.2.2.1)∧((List.take x0.1 (l03DrawTable_c2 x0)=List.take x0.1 (l03DrawTable_c2 x0))∧(List.take x2 (l03DrawTable_c1 x0)++[(↑x2:Int)]=List.take x5 (l03DrawTable_c1 x0))))))))))))))))))) ((room ((List.take x2 (l03DrawTable_c1 x0)).length+[(↑x2:Int)].length))∧((InR ((↑x2:Int)+(1:Int)))∧(∃x6:Nat,((((↑x6:Int)≤x0.2.1)∧((↑x0.1:Int)<x0.2.1))∧((x0.2.1.toNat - x6<x0.2.1.toNat - x2)∧((x0.2.1=x0.2.1)∧((x0.2.2.1=x0.2.2.1)∧(((↑x0.1:Int)=(↑x0.1:Int))∧(((↑x2:Int)+(1:Int)=(↑x6:Int))∧((code=code)∧((x0.2.2.2.2.2.2.1=x0.2.2.2.2.2.2.1)∧((x0.2.2.2.2.2.2.2=x0.2.2.2.2.2.2.2)∧((x0.2.2.2.1=x0.2.2.2.1) ∧
 ((x0.2.2.2.2.1=x0.2.2.2.2.1)∧((x0.2.2.2.2.2.1=x0.2.2.2.2.2.1)∧((List.take x0.1 (l03DrawTable_c2 x0)=List.take x0.1 (l03DrawTable_c2 x0))∧(List.take x2 (l03DrawTable_c1 x0)++[(↑x2:Int)]=List.take x6 (l03DrawTable_c1 x0)))))))))))))))))))) (BrP (decide (x0.2.2.1≤(↑x0.1:Int))) (BrP (decide (x0.2.2.1≤(↑x2:Int))) ((InR ((↑x0.1:Int) - x0.2.2.1))∧((inB ((↑x0.1:Int) - x0.2.2.1) (x0.2.2.2.2.1.length))∧((InR ((↑x2:Int) - x0.2.2.1))∧((inB ((↑x2:Int) - x0.2.2.1) ((x0.2.2.2.2.1.getD (((↑x0.1:Int) - x0.2.2.1).toNat) []).length))∧((inB (l03DrawTable_c3 x0 x2) (x0.2.2.2.2.2.1.length))∧((InR (x0.2.2.1+x0.2.2.2.2.2.1.getD ((l03DrawTable_c3 x0 x2).toNat) (0:Int)))∧((room ((List.take x2 (l03DrawTable_c1 x0)).length+[x0.2.2.1+x0.2.2.2.2.2.1.getD ((l03DrawTable_c3 x0 x2).toNat) (0:Int)].length))∧((InR ((↑x2:Int)+(1:Int)))∧(∃x7:Nat,((((↑x7:Int)≤x0.2.1)∧((↑x0.1:Int)<x0.2.1))∧((x0.2.1.toNat - x7<x0.2.1.toNat - x2)∧((x0.2.1=x0.2.1)∧((x0.2.2.1=x0.2.2.1)∧(((↑x0.1:Int)=(↑x0.1:Int))∧(((↑x2:Int)+(1:Int)=(↑x7:Int))∧((code=code)∧((x0.2.2.2.2.2.2.1=x0.2.2.2.2.2.2.1)∧((x0.2.2.2.2.2.2.2=x0.2.2.2.2.2.2.2)∧((x0.2.2.2.1=x0.2.2.2.1)∧((x0.2.2.2.2.1=x0.2.2.2.2.1)∧((x0.2.2.2.2.2.1=x0.2.2.2.2.2.1)∧((List.take x0.1 (l03DrawTable_c2 x0)=List.take x0.1 (l03DrawTable_c2 x0))∧(List.take x2 (l03DrawTable_c1 x0)++[x0.2.2.1+x0.2.2.2.2.2.1.getD ((l03DrawTable_c3 x0 x2).toNat) (0:Int)]=List.take x7 (l03DrawTable_c1 x0))))))))))))))))))))))))
 ((room ((List.take x2 (l03DrawTable_c1 x0)).length+[(↑x2:Int)].length))∧((InR ((↑x2:Int)+(1:Int)))∧(∃x8:Nat,((((↑x8:Int)≤x0.2.1)∧((↑x0.1:Int)<x0.2.1))∧((x0.2.1.toNat - x8<x0.2.1.toNat - x2)∧((x0.2.1=x0.2.1)∧((x0.2.2.1=x0.2.2.1)∧(((↑x0.1:Int)=(↑x0.1:Int))∧(((↑x2:Int)+(1:Int)=(↑x8:Int))∧((code=code)∧((x0.2.2.2.2.2.2.1=x0.2.2.2.2.2.2.1)∧((x0.2.2.2.2.2.2.2=x0.2.2.2.2.2.2.2)∧((x0.2.2.2.1=x0.2.2.2.1)∧((x0.2.2.2.2.1=x0.2.2.2.2.1)∧((x0.2.2.2.2.2.1=x0.2.2.2.2.2.1)∧((List.take x0.1 (l03DrawTable_c2 x0)=List.take x0.1 (l03DrawTable_c2 x0))∧(List.take x2 (l03DrawTable_c1 x0)++[(↑x2:Int)]=List.take x8 (l03DrawTable_c1 x0))))))))))))))))))) ((room ((List.take x2 (l03DrawTable_c1 x0)).length+[(↑x2:Int)].length))∧((InR ((↑x2:Int)+(1:Int)))∧(∃x9:Nat,((((↑x9:Int)≤x0.2.1)∧((↑x0.1:Int)<x0.2.1))∧((x0.2.1.toNat - x9<x0.2.1.toNat - x2)∧((x0.2.1=x0.2.1)∧((x0.2.2.1=x0.2.2.1)∧(((↑x0.1:Int)=(↑x0.1:Int))∧(((↑x2:Int)+(1:Int)=(↑x9:Int))∧((code=code)∧((x0.2.2.2.2.2.2.1=x0.2.2.2.2.2.2.1)∧((x0.2.2.2.2.2.2.2=x0.2.2.2.2.2.2.2)∧((x0.2.2.2.1=x0.2.2.2.1)∧((x0.2.2.2.2.1=x0.2.2.2.2.1)∧((x0.2.2.2.2.2.1=x0.2.2.2.2.2.1)∧((List.take x0.1 (l03DrawTable_c2 x0)=List.take x0.1 (l03DrawTable_c2 x0))∧(List.take x2 (l03DrawTable_c1 x0)++[(↑x2:Int)]=List.take x9 (l03DrawTable_c1 x0)))))))))))))))))))) ((room ((List.take x0.1 (l03DrawTable_c2 x0)).length+[List.take x2 (l03DrawTable_c1 x0)].length))∧((InR ((↑x0.1:Int)+(1:Int))) ∧
 (∃x10:Nat×Int×Int×List (List Int)×List (List Int)×List Int×Int×Int,((((↑(x10.1):Int)≤x10.2.1)∧(((1:Int)≤x10.2.2.1)∧((x10.2.2.1<x10.2.1)∧((x10.2.1≤(6:Int))∧((sqB (x10.2.2.1) (x10.2.2.2.1))∧((sqB (x10.2.1 - x10.2.2.1) (x10.2.2.2.2.1))∧(((↑((x10.2.2.2.2.2.1).length):Int)=x10.2.1 - x10.2.2.1)∧((∀(x:Int),x∈x10.2.2.2.2.2.1→(0:Int)≤x∧x≤x10.2.1 - x10.2.2.1 - (1:Int))∧(drT code a h most=(tabR ((x10.2.1).toNat) (mxF (x10.2.2.1) (x10.2.2.2.1) (x10.2.2.2.2.1) (x10.2.2.2.2.2.1)),x10.2.2.2.2.2.2.1,x10.2.2.2.2.2.2.2))))))))))∧(((x10.2.1).toNat - x10.1<(x0.2.1).toNat - x0.1)∧((x0.2.1=x10.2.1)∧((x0.2.2.1=x10.2.2.1)∧(((↑x0.1:Int)+(1:Int)=(↑x10.1:Int))∧((code=code)∧((x0.2.2.2.2.2.2.1=x10.2.2.2.2.2.2.1)∧((x0.2.2.2.2.2.2.2=x10.2.2.2.2.2.2.2)∧((x0.2.2.2.1=x10.2.2.2.1)∧((x0.2.2.2.2.1=x10.2.2.2.2.1)∧((x0.2.2.2.2.2.1=x10.2.2.2.2.2.1)∧(List.take x0.1 (l03DrawTable_c2 x0)++[List.take x2 (l03DrawTable_c1 x0)]=List.take x10.1 (l03DrawTable_c2 x10)))))))))))))))))))) ((List.take x0.1 (l03DrawTable_c2 x0)=(drT code a h most).1)∧(((code=code)∧((x0.2.2.2.2.2.2.1=((drT code a h most).2).1)∧((x0.2.2.2.2.2.2.2=((drT code a h most).2).2)∧True)))∧True))))
def l03DrawTable_c4 (code:List Int) (a:Int) (h:Int) (most:Int):=(dpS code (nxA (code.length) (nxA (code.length) (nxA (code.length) a most) (5:Int)) ((1:Int)+nxV code a h most)) (nxH (nxH (nxH h most) (5:Int)) ((1:Int)+nxV code a h most)) (((1:Int)+nxV code a h most - nxV code (nxA (code.length) (nxA (code.length) a most) (5:Int)) (nxH (nxH h most) (5:Int)) ((1:Int)+nxV code a h most)).toNat))
def l03DrawTable_c5 (code:List Int) (a:Int) (most:Int):=(nxA (code.length) (nxA (code.length) a most) (5:Int))
def l03DrawTable_V2 (code:List Int) (a:Int) (h:Int) (most:Int):Prop :=
 BrP (nxV code (nxA (code.length) (nxA (code.length) a most) (5:Int)) (nxH (nxH h most) (5:Int)) ((1:Int)+nxV code a h most) == (0:Int)) ((alT ((1:Int)+nxV code a h most - nxV code (l03DrawTable_c5 code a most) (nxH (nxH h most) (5:Int)) ((1:Int)+nxV code a h most)) (Int.tmod (1:Int) ((1:Int)+nxV code a h most - nxV code (l03DrawTable_c5 code a most) (nxH (nxH h most) (5:Int)) ((1:Int)+nxV code a h most))) (0:Int)=(drT code a h most).1)∧(((code=code)∧((nxA (code.length) (l03DrawTable_c5 code a most) ((1:Int)+nxV code a h most)=((drT code a h most).2).1)∧((nxH (nxH (nxH h most) (5:Int)) ((1:Int)+nxV code a h most)=((drT code a h most).2).2)∧True)))∧True)) ((InR ((1:Int)+nxV code a h most - nxV code (l03DrawTable_c5 code a most) (nxH (nxH h most) (5:Int)) ((1:Int)+nxV code a h most)))∧((((bytesB code)∧(((0:Int)≤nxA (code.length) (l03DrawTable_c5 code a most) ((1:Int)+nxV code a h most))∧((nxA (code.length) (l03DrawTable_c5 code a most) ((1:Int)+nxV code a h most)≤(↑(code.length):Int))∧((code.length≤(4096:Nat))∧(((0:Int)≤(1:Int)+nxV code a h most - nxV code (l03DrawTable_c5 code a most) (nxH (nxH h most) (5:Int)) ((1:Int)+nxV code a h most))∧((1:Int)+nxV code a h most - nxV code (l03DrawTable_c5 code a most) (nxH (nxH h most) (5:Int)) ((1:Int)+nxV code a h most)≤(144:Int)))))))∧((code=code)∧True))∧((∃x0:Nat×Int×Int×List (List Int)×List (List Int)×List Int×Int×Int,((((↑(x0.1):Int)≤x0.2.1) ∧
 (((1:Int)≤x0.2.2.1)∧((x0.2.2.1<x0.2.1)∧((x0.2.1≤(6:Int))∧((sqB (x0.2.2.1) (x0.2.2.2.1))∧((sqB (x0.2.1 - x0.2.2.1) (x0.2.2.2.2.1))∧(((↑((x0.2.2.2.2.2.1).length):Int)=x0.2.1 - x0.2.2.1)∧((∀(x:Int),x∈x0.2.2.2.2.2.1→(0:Int)≤x∧x≤x0.2.1 - x0.2.2.1 - (1:Int))∧(drT code a h most=(tabR ((x0.2.1).toNat) (mxF (x0.2.2.1) (x0.2.2.2.1) (x0.2.2.2.2.1) (x0.2.2.2.2.2.1)),x0.2.2.2.2.2.2.1,x0.2.2.2.2.2.2.2))))))))))∧(((1:Int)+nxV code a h most=x0.2.1)∧((nxV code (l03DrawTable_c5 code a most) (nxH (nxH h most) (5:Int)) ((1:Int)+nxV code a h most)=x0.2.2.1)∧(((0:Int)=(↑x0.1:Int))∧((code=code)∧((((l03DrawTable_c4 code a h most).2).1=x0.2.2.2.2.2.2.1)∧((((l03DrawTable_c4 code a h most).2).2=x0.2.2.2.2.2.2.2) ∧
 ((alT (if nxV code (nxA (code.length) (nxA (code.length) a most) (5:Int)) (nxH (nxH h most) (5:Int)) ((1:Int)+nxV code a h most) > (1:Int) then nxV code (l03DrawTable_c5 code a most) (nxH (nxH h most) (5:Int)) ((1:Int)+nxV code a h most) else (1:Int)) ((if nxV code (nxA (code.length) (nxA (code.length) a most) (5:Int)) (nxH (nxH h most) (5:Int)) ((1:Int)+nxV code a h most) > (1:Int) then nxV code (l03DrawTable_c5 code a most) (nxH (nxH h most) (5:Int)) ((1:Int)+nxV code a h most) else (1:Int)) - (1:Int)) (Int.tmod (2:Int) (if nxV code (nxA (code.length) (nxA (code.length) a most) (5:Int)) (nxH (nxH h most) (5:Int)) ((1:Int)+nxV code a h most) > (1:Int) then nxV code (l03DrawTable_c5 code a most) (nxH (nxH h most) (5:Int)) ((1:Int)+nxV code a h most) else (1:Int)))=x0.2.2.2.1)∧((alT ((1:Int)+nxV code a h most - nxV code (l03DrawTable_c5 code a most) (nxH (nxH h most) (5:Int)) ((1:Int)+nxV code a h most)) (Int.tmod (1:Int) ((1:Int)+nxV code a h most - nxV code (l03DrawTable_c5 code a most) (nxH (nxH h most) (5:Int)) ((1:Int)+nxV code a h most))) (0:Int)=x0.2.2.2.2.1)∧(((l03DrawTable_c4 code a h most).1=x0.2.2.2.2.2.1)∧([]=List.take x0.1 (tabR (x0.2.1.toNat) (mxF x0.2.2.1 x0.2.2.2.1 x0.2.2.2.2.1 x0.2.2.2.2.2.1))))))))))))))∧(l03DrawTable_V1 code a h most))))
def l03DrawTable_V3 (code:List Int) (a:Int) (h:Int) (most:Int):Prop :=
 ∀x0:Nat×List (List Int)×Int×Int,(((x0.1≤(x0.2.1).length)∧((CjOk (x0.2.1))∧(drT code a h most=(cjT (x0.2.1),x0.2.2.1,x0.2.2.2))))→(BrP (decide ((↑x0.1:Int)<(↑(FC.len (FC.rows IntKind.i64 x0.2.1)):Int))) ((∃x1:Nat,(((x1≤x0.2.1.length)∧(x0.1<x0.2.1.length))∧(((↑x0.1:Int)=(↑x0.1:Int))∧(((0:Int)=(↑x1:Int))∧((code=code)∧((x0.2.2.1=x0.2.2.1)∧((x0.2.2.2=x0.2.2.2)∧((x0.2.1=x0.2.1)∧((List.take x0.1 (cjT x0.2.1)=List.take x0.1 (cjT x0.2.1))∧([]=List.take x1 (tab (x0.2.1.length) (cjF x0.2.1 x0.1))))))))))))∧(∀x2:Nat,(((x2≤x0.2.1.length)∧(x0.1<x0.2.1.length))→(BrP (decide ((↑x2:Int)<(↑(FC.len (FC.rows IntKind.i64 x0.2.1)):Int))) ((inB (↑x0.1:Int) (FC.len (FC.rows IntKind.i64 x0.2.1)))∧((((room ((x0.2.1.getD ((↑x0.1:Int).toNat) []).length))∧(inQ ((x0.2.1.getD ((↑x0.1:Int).toNat) []).length) (x0.2.1.getD ((↑x0.1:Int).toNat) [])))∧True)∧((inB (↑x2:Int) (FC.len (FC.rows IntKind.i64 x0.2.1)))∧((((room ((bkL (x0.2.1.getD ((↑x0.1:Int).toNat) [])).length))∧(inQ ((x0.2.1.getD ((↑x2:Int).toNat) []).length) (bkL (x0.2.1.getD ((↑x0.1:Int).toNat) []))))∧True)∧((inB (↑x0.1:Int) (FC.len (FC.rows IntKind.i64 x0.2.1)))∧((((room ((thL (bkL (x0.2.1.getD ((↑x0.1:Int).toNat) [])) (x0.2.1.getD ((↑x2:Int).toNat) [])).length))∧(inQ ((x0.2.1.getD ((↑x0.1:Int).toNat) []).length) (thL (bkL (x0.2.1.getD ((↑x0.1:Int).toNat) [])) (x0.2.1.getD ((↑x2:Int).toNat) []))))∧True)∧((∃x3:Nat,(((x3≤fIx (cjZ x0.2.1 x0.1 x2) x0.2.1)∧(x2<x0.2.1.length)) ∧
 (((↑x0.1:Int)=(↑x0.1:Int))∧(((↑x2:Int)=(↑x2:Int))∧(((0:Int)=(↑x3:Int))∧((code=code)∧((x0.2.2.1=x0.2.2.1)∧((x0.2.2.2=x0.2.2.2)∧((x0.2.1=x0.2.1)∧((List.take x0.1 (cjT x0.2.1)=List.take x0.1 (cjT x0.2.1))∧((List.take x2 (tab (x0.2.1.length) (cjF x0.2.1 x0.1))=List.take x2 (tab (x0.2.1.length) (cjF x0.2.1 x0.1)))∧(thL (thL (bkL (x0.2.1.getD ((↑x0.1:Int).toNat) [])) (x0.2.1.getD ((↑x2:Int).toNat) [])) (x0.2.1.getD ((↑x0.1:Int).toNat) [])=cjZ x0.2.1 x0.1 x2))))))))))))∧(∀x4:Nat,(((x4≤fIx (cjZ x0.2.1 x0.1 x2) x0.2.1)∧(x2<x0.2.1.length))→((inB (↑x4:Int) (FC.len (FC.rows IntKind.i64 x0.2.1)))∧(((room ((x0.2.1.getD ((↑x4:Int).toNat) []).length))∧True)∧(BrP (!decide (x0.2.1.getD ((↑x4:Int).toNat) []=cjZ x0.2.1 x0.1 x2)) ((InR ((↑x4:Int)+(1:Int)))∧(∃x5:Nat,(((x5≤fIx (cjZ x0.2.1 x0.1 x2) x0.2.1)∧(x2<x0.2.1.length))∧((x0.2.1.length - x5<x0.2.1.length - x4)∧(((↑x0.1:Int)=(↑x0.1:Int))∧(((↑x2:Int)=(↑x2:Int))∧(((↑x4:Int)+(1:Int)=(↑x5:Int))∧((code=code)∧((x0.2.2.1=x0.2.2.1)∧((x0.2.2.2=x0.2.2.2)∧((x0.2.1=x0.2.1)∧((List.take x0.1 (cjT x0.2.1)=List.take x0.1 (cjT x0.2.1))∧((List.take x2 (tab (x0.2.1.length) (cjF x0.2.1 x0.1))=List.take x2 (tab (x0.2.1.length) (cjF x0.2.1 x0.1)))∧(cjZ x0.2.1 x0.1 x2=cjZ x0.2.1 x0.1 x2)))))))))))))) ((room ((List.take x2 (tab (x0.2.1.length) (cjF x0.2.1 x0.1))).length+[(↑x4:Int)].length))∧((InR ((↑x2:Int)+(1:Int)))∧(∃x6:Nat,(((x6≤x0.2.1.length)∧(x0.1<x0.2.1.length)) ∧
 ((x0.2.1.length - x6<x0.2.1.length - x2)∧(((↑x0.1:Int)=(↑x0.1:Int))∧(((↑x2:Int)+(1:Int)=(↑x6:Int))∧((code=code)∧((x0.2.2.1=x0.2.2.1)∧((x0.2.2.2=x0.2.2.2)∧((x0.2.1=x0.2.1)∧((List.take x0.1 (cjT x0.2.1)=List.take x0.1 (cjT x0.2.1))∧(List.take x2 (tab (x0.2.1.length) (cjF x0.2.1 x0.1))++[(↑x4:Int)]=List.take x6 (tab (x0.2.1.length) (cjF x0.2.1 x0.1))))))))))))))))))))))))))) ((room ((List.take x0.1 (cjT x0.2.1)).length+[List.take x2 (tab (x0.2.1.length) (cjF x0.2.1 x0.1))].length))∧((InR ((↑x0.1:Int)+(1:Int)))∧(∃x7:Nat×List (List Int)×Int×Int,(((x7.1≤(x7.2.1).length)∧((CjOk (x7.2.1))∧(drT code a h most=(cjT (x7.2.1),x7.2.2.1,x7.2.2.2))))∧(((x7.2.1).length - x7.1<(x0.2.1).length - x0.1)∧(((↑x0.1:Int)+(1:Int)=(↑x7.1:Int))∧((code=code)∧((x0.2.2.1=x7.2.2.1)∧((x0.2.2.2=x7.2.2.2)∧((x0.2.1=x7.2.1)∧(List.take x0.1 (cjT x0.2.1)++[List.take x2 (tab (x0.2.1.length) (cjF x0.2.1 x0.1))]=List.take x7.1 (cjT x7.2.1)))))))))))))))) ((List.take x0.1 (cjT x0.2.1)=(drT code a h most).1)∧(((code=code)∧((x0.2.2.1=((drT code a h most).2).1)∧((x0.2.2.2=((drT code a h most).2).2)∧True)))∧True))))
def l03DrawTable_c6 (code:List Int) (a:Int) (most:Int):=(nxA (code.length) (nxA (code.length) a most) (5:Int))
def l03DrawTable_c7 (code:List Int) (a:Int) (h:Int) (most:Int):=(InR ((1:Int)+nxV code a h most - nxV code (l03DrawTable_c6 code a most) (nxH (nxH h most) (5:Int)) ((1:Int)+nxV code a h most)))
def l03DrawTable_V (code:List Int) (a:Int) (h:Int) (most:Int):Prop :=
 ((((bytesB code)∧(((0:Int)≤a)∧(a≤(1099511627776:Int))))∧((code=code)∧True))∧((InR ((1:Int)+nxV code a h most))∧((((bytesB code)∧(((0:Int)≤nxA (code.length) a most)∧(nxA (code.length) a most≤(1099511627776:Int))))∧((code=code)∧True))∧(BrP (nxV code (nxA (code.length) a most) (nxH h most) (5:Int) == (0:Int)) ((((bytesB code)∧(((0:Int)≤nxA (code.length) (nxA (code.length) a most) (5:Int))∧((nxA (code.length) (nxA (code.length) a most) (5:Int)≤(↑(code.length):Int))∧((code.length≤(4096:Nat))∧(((0:Int)≤(1:Int)+nxV code a h most)∧((1:Int)+nxV code a h most≤(144:Int)))))))∧((code=code)∧True))∧((∃x0:Nat×Int×List Int×Int×Int,((((↑(x0.1):Int)≤x0.2.1)∧(((1:Int)≤x0.2.1)∧((x0.2.1≤(6:Int))∧(((x0.2.2.1).length≤(6:Nat))∧(drT code a h most=(List.replicate ((x0.2.1).toNat) (x0.2.2.1),x0.2.2.2.1,x0.2.2.2.2))))))∧((most=most)∧(((1:Int)+nxV code a h most=x0.2.1)∧(((0:Int)=(↑x0.1:Int))∧((code=code)∧((((dpS code (l03DrawTable_c6 code a most) (nxH (nxH h most) (5:Int)) (((1:Int)+nxV code a h most).toNat)).2).1=x0.2.2.2.1)∧((((dpS code (l03DrawTable_c6 code a most) (nxH (nxH h most) (5:Int)) (((1:Int)+nxV code a h most).toNat)).2).2=x0.2.2.2.2)∧(((dpS code (l03DrawTable_c6 code a most) (nxH (nxH h most) (5:Int)) (((1:Int)+nxV code a h most).toNat)).1=x0.2.2.1)∧([]=List.replicate x0.1 x0.2.2.1))))))))))∧(∀x1:Nat×Int×List Int×Int×Int,((((↑(x1.1):Int)≤x1.2.1)∧(((1:Int)≤x1.2.1)∧((x1.2.1≤(6:Int)) ∧
 (((x1.2.2.1).length≤(6:Nat))∧(drT code a h most=(List.replicate ((x1.2.1).toNat) (x1.2.2.1),x1.2.2.2.1,x1.2.2.2.2))))))→(BrP (decide ((↑x1.1:Int)<x1.2.1)) (((room (x1.2.2.1.length))∧True)∧((room ((List.replicate x1.1 x1.2.2.1).length+[x1.2.2.1].length))∧((InR ((↑x1.1:Int)+(1:Int)))∧(∃x2:Nat×Int×List Int×Int×Int,((((↑(x2.1):Int)≤x2.2.1)∧(((1:Int)≤x2.2.1)∧((x2.2.1≤(6:Int))∧(((x2.2.2.1).length≤(6:Nat))∧(drT code a h most=(List.replicate ((x2.2.1).toNat) (x2.2.2.1),x2.2.2.2.1,x2.2.2.2.2))))))∧(((x2.2.1).toNat - x2.1<(x1.2.1).toNat - x1.1)∧((most=most)∧((x1.2.1=x2.2.1)∧(((↑x1.1:Int)+(1:Int)=(↑x2.1:Int))∧((code=code)∧((x1.2.2.2.1=x2.2.2.2.1)∧((x1.2.2.2.2=x2.2.2.2.2)∧((x1.2.2.1=x2.2.2.1)∧(List.replicate x1.1 x1.2.2.1++[x1.2.2.1]=List.replicate x2.1 x2.2.2.1)))))))))))))) ((List.replicate x1.1 x1.2.2.1=(drT code a h most).1)∧(((code=code)∧((x1.2.2.2.1=((drT code a h most).2).1)∧((x1.2.2.2.2=((drT code a h most).2).2)∧True)))∧True))))))) (BrP (nxV code (nxA (code.length) a most) (nxH h most) (5:Int) == (1:Int)) ((InR ((1:Int)+nxV code a h most - (1:Int)))∧(((1:Int)+nxV code a h most≠(0:Int))∧(((((0:Int)≤(1:Int)+nxV code a h most)∧(((1:Int)+nxV code a h most≤(144:Int))∧(((0:Int)≤(1:Int)+nxV code a h most - (1:Int))∧(((1:Int)+nxV code a h most - (1:Int)≤(144:Int))∧(((0:Int)≤Int.tmod (2:Int) ((1:Int)+nxV code a h most))∧(Int.tmod (2:Int) ((1:Int)+nxV code a h most)≤(144:Int)))))))∧True) ∧
 ((alT ((1:Int)+nxV code a h most) ((1:Int)+nxV code a h most - (1:Int)) (Int.tmod (2:Int) ((1:Int)+nxV code a h most))=(drT code a h most).1)∧(((code=code)∧((nxA (code.length) (nxA (code.length) a most) (5:Int)=((drT code a h most).2).1)∧((nxH (nxH h most) (5:Int)=((drT code a h most).2).2)∧True)))∧True))))) (BrP (nxV code (nxA (code.length) a most) (nxH h most) (5:Int) == (2:Int)) ((∃x3:Nat×Int×Int×Int,(((x3.1≤(6:Nat))∧(((1:Int)≤x3.2.1)∧((x3.2.1≤(6:Int))∧(((0:Int)≤x3.2.2.1)∧((x3.2.2.1≤(↑(code.length):Int))∧(drT code a h most=drC code (x3.2.1) (tryC code (x3.2.1) ((6:Nat) - x3.1) (x3.2.2.1) (x3.2.2.2))))))))∧((most=most)∧(((1:Int)+nxV code a h most=x3.2.1)∧(((0:Int)=(↑x3.1:Int))∧((code=code)∧((nxA (code.length) (nxA (code.length) a most) (5:Int)=x3.2.2.1)∧(nxH (nxH h most) (5:Int)=x3.2.2.2))))))))∧(∀x4:Nat×Int×Int×Int,(((x4.1≤(6:Nat))∧(((1:Int)≤x4.2.1)∧((x4.2.1≤(6:Int))∧(((0:Int)≤x4.2.2.1)∧((x4.2.2.1≤(↑(code.length):Int))∧(drT code a h most=drC code (x4.2.1) (tryC code (x4.2.1) ((6:Nat) - x4.1) (x4.2.2.1) (x4.2.2.2))))))))→(BrP (decide ((↑x4.1:Int)<(6:Int))) ((((bytesB code)∧(((0:Int)≤x4.2.2.1)∧(x4.2.2.1≤(1099511627776:Int))))∧((code=code)∧True))∧(((((0:Int)≤x4.2.1)∧((x4.2.1≤(144:Int))∧(((0:Int)≤nxV code x4.2.2.1 x4.2.2.2 x4.2.1)∧(nxV code x4.2.2.1 x4.2.2.2 x4.2.1≤(144:Int)))))∧True)∧(BrP (cpD (nxV code x4.2.2.1 x4.2.2.2 x4.2.1) x4.2.1 ((x4.2.1 - (1:Int)).toNat) (2:Int))
 ((InR ((1:Int) - nxV code x4.2.2.1 x4.2.2.2 x4.2.1))∧((InR ((1:Int) - nxV code x4.2.2.1 x4.2.2.2 x4.2.1+x4.2.1))∧((x4.2.1≠(0:Int))∧(((((0:Int)≤x4.2.1)∧((x4.2.1≤(144:Int))∧(((0:Int)≤nxV code x4.2.2.1 x4.2.2.2 x4.2.1)∧((nxV code x4.2.2.1 x4.2.2.2 x4.2.1≤(144:Int))∧(((0:Int)≤Int.tmod ((1:Int) - nxV code x4.2.2.1 x4.2.2.2 x4.2.1+x4.2.1) x4.2.1)∧(Int.tmod ((1:Int) - nxV code x4.2.2.1 x4.2.2.2 x4.2.1+x4.2.1) x4.2.1≤(144:Int)))))))∧True)∧((alT x4.2.1 (nxV code x4.2.2.1 x4.2.2.2 x4.2.1) (Int.tmod ((1:Int) - nxV code x4.2.2.1 x4.2.2.2 x4.2.1+x4.2.1) x4.2.1)=(drT code a h most).1)∧(((code=code)∧((nxA (code.length) x4.2.2.1 x4.2.1=((drT code a h most).2).1)∧((nxH x4.2.2.2 x4.2.1=((drT code a h most).2).2)∧True)))∧True)))))) ((InR ((↑x4.1:Int)+(1:Int)))∧(∃x5:Nat×Int×Int×Int,(((x5.1≤(6:Nat))∧(((1:Int)≤x5.2.1)∧((x5.2.1≤(6:Int))∧(((0:Int)≤x5.2.2.1)∧((x5.2.2.1≤(↑(code.length):Int))∧(drT code a h most=drC code (x5.2.1) (tryC code (x5.2.1) ((6:Nat) - x5.1) (x5.2.2.1) (x5.2.2.2))))))))∧(((6:Nat) - x5.1<(6:Nat) - x4.1)∧((most=most)∧((x4.2.1=x5.2.1)∧(((↑x4.1:Int)+(1:Int)=(↑x5.1:Int))∧((code=code)∧((nxA (code.length) x4.2.2.1 x4.2.1=x5.2.2.1)∧(nxH x4.2.2.2 x4.2.1=x5.2.2.2))))))))))))) ((((bytesB code)∧(((0:Int)≤x4.2.2.1)∧(x4.2.2.1≤(1099511627776:Int))))∧((code=code)∧True))∧((InR ((if nxV code x4.2.2.1 x4.2.2.2 x4.2.1 > (1:Int) then nxV code x4.2.2.1 x4.2.2.2 x4.2.1 else (1:Int)) - (1:Int))) ∧
 (((if nxV code x4.2.2.1 x4.2.2.2 x4.2.1 > (1:Int) then nxV code x4.2.2.1 x4.2.2.2 x4.2.1 else (1:Int))≠(0:Int))∧(((((0:Int)≤if nxV code x4.2.2.1 x4.2.2.2 x4.2.1 > (1:Int) then nxV code x4.2.2.1 x4.2.2.2 x4.2.1 else (1:Int))∧(((if nxV code x4.2.2.1 x4.2.2.2 x4.2.1 > (1:Int) then nxV code x4.2.2.1 x4.2.2.2 x4.2.1 else (1:Int))≤(144:Int))∧(((0:Int)≤(if nxV code x4.2.2.1 x4.2.2.2 x4.2.1 > (1:Int) then nxV code x4.2.2.1 x4.2.2.2 x4.2.1 else (1:Int)) - (1:Int))∧(((if nxV code x4.2.2.1 x4.2.2.2 x4.2.1 > (1:Int) then nxV code x4.2.2.1 x4.2.2.2 x4.2.1 else (1:Int)) - (1:Int)≤(144:Int))∧(((0:Int)≤Int.tmod (2:Int) (if nxV code x4.2.2.1 x4.2.2.2 x4.2.1 > (1:Int) then nxV code x4.2.2.1 x4.2.2.2 x4.2.1 else (1:Int)))∧(Int.tmod (2:Int) (if nxV code x4.2.2.1 x4.2.2.2 x4.2.1 > (1:Int) then nxV code x4.2.2.1 x4.2.2.2 x4.2.1 else (1:Int))≤(144:Int)))))))∧True)∧((InR (x4.2.1 - nxV code x4.2.2.1 x4.2.2.2 x4.2.1))∧((InR (x4.2.1 - nxV code x4.2.2.1 x4.2.2.2 x4.2.1))∧((x4.2.1 - nxV code x4.2.2.1 x4.2.2.2 x4.2.1≠(0:Int))∧(((((0:Int)≤x4.2.1 - nxV code x4.2.2.1 x4.2.2.2 x4.2.1)∧((x4.2.1 - nxV code x4.2.2.1 x4.2.2.2 x4.2.1≤(144:Int))∧(((0:Int)≤Int.tmod (1:Int) (x4.2.1 - nxV code x4.2.2.1 x4.2.2.2 x4.2.1))∧((Int.tmod (1:Int) (x4.2.1 - nxV code x4.2.2.1 x4.2.2.2 x4.2.1)≤(144:Int))∧(((0:Int)≤(0:Int))∧((0:Int)≤(144:Int)))))))∧True)∧(BrP (nxV code x4.2.2.1 x4.2.2.2 x4.2.1 == (0:Int))
 ((alT (x4.2.1 - nxV code x4.2.2.1 x4.2.2.2 x4.2.1) (Int.tmod (1:Int) (x4.2.1 - nxV code x4.2.2.1 x4.2.2.2 x4.2.1)) (0:Int)=(drT code a h most).1)∧(((code=code)∧((nxA (code.length) x4.2.2.1 x4.2.1=((drT code a h most).2).1)∧((nxH x4.2.2.2 x4.2.1=((drT code a h most).2).2)∧True)))∧True)) ((InR (x4.2.1 - nxV code x4.2.2.1 x4.2.2.2 x4.2.1))∧((((bytesB code)∧(((0:Int)≤nxA (code.length) x4.2.2.1 x4.2.1)∧((nxA (code.length) x4.2.2.1 x4.2.1≤(↑(code.length):Int))∧((code.length≤(4096:Nat))∧(((0:Int)≤x4.2.1 - nxV code x4.2.2.1 x4.2.2.2 x4.2.1)∧(x4.2.1 - nxV code x4.2.2.1 x4.2.2.2 x4.2.1≤(144:Int)))))))∧((code=code)∧True))∧((∃x6:Nat×Int×Int×List (List Int)×List (List Int)×List Int×Int×Int,((((↑(x6.1):Int)≤x6.2.1)∧(((1:Int)≤x6.2.2.1)∧((x6.2.2.1<x6.2.1)∧((x6.2.1≤(6:Int))∧((sqB (x6.2.2.1) (x6.2.2.2.1))∧((sqB (x6.2.1 - x6.2.2.1) (x6.2.2.2.2.1))∧(((↑((x6.2.2.2.2.2.1).length):Int)=x6.2.1 - x6.2.2.1)∧((∀(x:Int),x∈x6.2.2.2.2.2.1→(0:Int)≤x∧x≤x6.2.1 - x6.2.2.1 - (1:Int))∧(drT code a h most=(tabR ((x6.2.1).toNat) (mxF (x6.2.2.1) (x6.2.2.2.1) (x6.2.2.2.2.1) (x6.2.2.2.2.2.1)),x6.2.2.2.2.2.2.1,x6.2.2.2.2.2.2.2))))))))))∧((x4.2.1=x6.2.1)∧((nxV code x4.2.2.1 x4.2.2.2 x4.2.1=x6.2.2.1)∧(((0:Int)=(↑x6.1:Int))∧((code=code)∧((((dpS code (nxA (code.length) x4.2.2.1 x4.2.1) (nxH x4.2.2.2 x4.2.1) ((x4.2.1 - nxV code x4.2.2.1 x4.2.2.2 x4.2.1).toNat)).2).1=x6.2.2.2.2.2.2.1) ∧
 ((((dpS code (nxA (code.length) x4.2.2.1 x4.2.1) (nxH x4.2.2.2 x4.2.1) ((x4.2.1 - nxV code x4.2.2.1 x4.2.2.2 x4.2.1).toNat)).2).2=x6.2.2.2.2.2.2.2)∧((alT (if nxV code x4.2.2.1 x4.2.2.2 x4.2.1 > (1:Int) then nxV code x4.2.2.1 x4.2.2.2 x4.2.1 else (1:Int)) ((if nxV code x4.2.2.1 x4.2.2.2 x4.2.1 > (1:Int) then nxV code x4.2.2.1 x4.2.2.2 x4.2.1 else (1:Int)) - (1:Int)) (Int.tmod (2:Int) (if nxV code x4.2.2.1 x4.2.2.2 x4.2.1 > (1:Int) then nxV code x4.2.2.1 x4.2.2.2 x4.2.1 else (1:Int)))=x6.2.2.2.1)∧((alT (x4.2.1 - nxV code x4.2.2.1 x4.2.2.2 x4.2.1) (Int.tmod (1:Int) (x4.2.1 - nxV code x4.2.2.1 x4.2.2.2 x4.2.1)) (0:Int)=x6.2.2.2.2.1)∧(((dpS code (nxA (code.length) x4.2.2.1 x4.2.1) (nxH x4.2.2.2 x4.2.1) ((x4.2.1 - nxV code x4.2.2.1 x4.2.2.2 x4.2.1).toNat)).1=x6.2.2.2.2.2.1)∧([]=List.take x6.1 (tabR (x6.2.1.toNat) (mxF x6.2.2.1 x6.2.2.2.1 x6.2.2.2.2.1 x6.2.2.2.2.2.1))))))))))))))∧(l03DrawTable_V1 code a h most))))))))))))))))) (BrP (nxV code (nxA (code.length) a most) (nxH h most) (5:Int) == (3:Int)) (BrP (decide ((6:Int)≤most)) ((((3:Int)=(3:Int))∧True)∧((((bytesB code)∧(((0:Int)≤nxA (code.length) (nxA (code.length) a most) (5:Int))∧(nxA (code.length) (nxA (code.length) a most) (5:Int)≤(1099511627776:Int))))∧((code=code)∧True))∧(BrP (nxV code (nxA (code.length) (nxA (code.length) a most) (5:Int)) (nxH (nxH h most) (5:Int)) (2:Int) == (0:Int)) ((∃x18:Nat×List (List Int)×Int×Int,(((x18.1≤(x18.2.1).length)∧((CjOk (x18.2.1)) ∧
 (drT code a h most=(cjT (x18.2.1),x18.2.2.1,x18.2.2.2))))∧(((0:Int)=(↑x18.1:Int))∧((code=code)∧((nxA (code.length) (l03DrawTable_c6 code a most) (2:Int)=x18.2.2.1)∧((nxH (nxH (nxH h most) (5:Int)) (2:Int)=x18.2.2.2)∧(([[(0:Int),(2:Int),(1:Int)],[(1:Int),(0:Int),(2:Int)],[(2:Int),(1:Int),(0:Int)]]=x18.2.1)∧([]=List.take x18.1 (cjT x18.2.1)))))))))∧(l03DrawTable_V3 code a h most)) ((∃x27:Nat×List (List Int)×Int×Int,(((x27.1≤(x27.2.1).length)∧((CjOk (x27.2.1))∧(drT code a h most=(cjT (x27.2.1),x27.2.2.1,x27.2.2.2))))∧(((0:Int)=(↑x27.1:Int))∧((code=code)∧((nxA (code.length) (l03DrawTable_c6 code a most) (2:Int)=x27.2.2.1)∧((nxH (nxH (nxH h most) (5:Int)) (2:Int)=x27.2.2.2)∧((perms3=x27.2.1)∧([]=List.take x27.1 (cjT x27.2.1)))))))))∧(l03DrawTable_V3 code a h most))))) ((((bytesB code)∧(((0:Int)≤nxA (code.length) (nxA (code.length) a most) (5:Int))∧(nxA (code.length) (nxA (code.length) a most) (5:Int)≤(1099511627776:Int))))∧((code=code)∧True))∧((InR ((if nxV code (nxA (code.length) (nxA (code.length) a most) (5:Int)) (nxH (nxH h most) (5:Int)) ((1:Int)+nxV code a h most) > (1:Int) then nxV code (l03DrawTable_c6 code a most) (nxH (nxH h most) (5:Int)) ((1:Int)+nxV code a h most) else (1:Int)) - (1:Int))) ∧
 (((if nxV code (nxA (code.length) (nxA (code.length) a most) (5:Int)) (nxH (nxH h most) (5:Int)) ((1:Int)+nxV code a h most) > (1:Int) then nxV code (l03DrawTable_c6 code a most) (nxH (nxH h most) (5:Int)) ((1:Int)+nxV code a h most) else (1:Int))≠(0:Int))∧(((((0:Int)≤if nxV code (nxA (code.length) (nxA (code.length) a most) (5:Int)) (nxH (nxH h most) (5:Int)) ((1:Int)+nxV code a h most) > (1:Int) then nxV code (l03DrawTable_c6 code a most) (nxH (nxH h most) (5:Int)) ((1:Int)+nxV code a h most) else (1:Int))∧(((if nxV code (nxA (code.length) (nxA (code.length) a most) (5:Int)) (nxH (nxH h most) (5:Int)) ((1:Int)+nxV code a h most) > (1:Int) then nxV code (l03DrawTable_c6 code a most) (nxH (nxH h most) (5:Int)) ((1:Int)+nxV code a h most) else (1:Int))≤(144:Int))∧(((0:Int)≤(if nxV code (nxA (code.length) (nxA (code.length) a most) (5:Int)) (nxH (nxH h most) (5:Int)) ((1:Int)+nxV code a h most) > (1:Int) then nxV code (l03DrawTable_c6 code a most) (nxH (nxH h most) (5:Int)) ((1:Int)+nxV code a h most) else (1:Int)) - (1:Int))∧(((if nxV code (nxA (code.length) (nxA (code.length) a most) (5:Int)) (nxH (nxH h most) (5:Int)) ((1:Int)+nxV code a h most) > (1:Int) then nxV code (l03DrawTable_c6 code a most) (nxH (nxH h most) (5:Int)) ((1:Int)+nxV code a h most) else (1:Int)) - (1:Int)≤(144:Int)) ∧
 (((0:Int)≤Int.tmod (2:Int) (if nxV code (nxA (code.length) (nxA (code.length) a most) (5:Int)) (nxH (nxH h most) (5:Int)) ((1:Int)+nxV code a h most) > (1:Int) then nxV code (l03DrawTable_c6 code a most) (nxH (nxH h most) (5:Int)) ((1:Int)+nxV code a h most) else (1:Int)))∧(Int.tmod (2:Int) (if nxV code (nxA (code.length) (nxA (code.length) a most) (5:Int)) (nxH (nxH h most) (5:Int)) ((1:Int)+nxV code a h most) > (1:Int) then nxV code (l03DrawTable_c6 code a most) (nxH (nxH h most) (5:Int)) ((1:Int)+nxV code a h most) else (1:Int))≤(144:Int)))))))∧True)∧((l03DrawTable_c7 code a h most)∧((l03DrawTable_c7 code a h most)∧(((1:Int)+nxV code a h most - nxV code (l03DrawTable_c6 code a most) (nxH (nxH h most) (5:Int)) ((1:Int)+nxV code a h most)≠(0:Int))∧(((((0:Int)≤(1:Int)+nxV code a h most - nxV code (l03DrawTable_c6 code a most) (nxH (nxH h most) (5:Int)) ((1:Int)+nxV code a h most))∧(((1:Int)+nxV code a h most - nxV code (l03DrawTable_c6 code a most) (nxH (nxH h most) (5:Int)) ((1:Int)+nxV code a h most)≤(144:Int))∧(((0:Int)≤Int.tmod (1:Int) ((1:Int)+nxV code a h most - nxV code (l03DrawTable_c6 code a most) (nxH (nxH h most) (5:Int)) ((1:Int)+nxV code a h most)))∧((Int.tmod (1:Int) ((1:Int)+nxV code a h most - nxV code (l03DrawTable_c6 code a most) (nxH (nxH h most) (5:Int)) ((1:Int)+nxV code a h most))≤(144:Int))∧(((0:Int)≤(0:Int))∧((0:Int)≤(144:Int)))))))∧True)∧(l03DrawTable_V2 code a h most)))))))))) ((((bytesB code) ∧
 (((0:Int)≤nxA (code.length) (nxA (code.length) a most) (5:Int))∧(nxA (code.length) (nxA (code.length) a most) (5:Int)≤(1099511627776:Int))))∧((code=code)∧True))∧((InR ((if nxV code (nxA (code.length) (nxA (code.length) a most) (5:Int)) (nxH (nxH h most) (5:Int)) ((1:Int)+nxV code a h most) > (1:Int) then nxV code (l03DrawTable_c6 code a most) (nxH (nxH h most) (5:Int)) ((1:Int)+nxV code a h most) else (1:Int)) - (1:Int)))∧(((if nxV code (nxA (code.length) (nxA (code.length) a most) (5:Int)) (nxH (nxH h most) (5:Int)) ((1:Int)+nxV code a h most) > (1:Int) then nxV code (l03DrawTable_c6 code a most) (nxH (nxH h most) (5:Int)) ((1:Int)+nxV code a h most) else (1:Int))≠(0:Int))∧(((((0:Int)≤if nxV code (nxA (code.length) (nxA (code.length) a most) (5:Int)) (nxH (nxH h most) (5:Int)) ((1:Int)+nxV code a h most) > (1:Int) then nxV code (l03DrawTable_c6 code a most) (nxH (nxH h most) (5:Int)) ((1:Int)+nxV code a h most) else (1:Int))∧(((if nxV code (nxA (code.length) (nxA (code.length) a most) (5:Int)) (nxH (nxH h most) (5:Int)) ((1:Int)+nxV code a h most) > (1:Int) then nxV code (l03DrawTable_c6 code a most) (nxH (nxH h most) (5:Int)) ((1:Int)+nxV code a h most) else (1:Int))≤(144:Int)) ∧
 (((0:Int)≤(if nxV code (nxA (code.length) (nxA (code.length) a most) (5:Int)) (nxH (nxH h most) (5:Int)) ((1:Int)+nxV code a h most) > (1:Int) then nxV code (l03DrawTable_c6 code a most) (nxH (nxH h most) (5:Int)) ((1:Int)+nxV code a h most) else (1:Int)) - (1:Int))∧(((if nxV code (nxA (code.length) (nxA (code.length) a most) (5:Int)) (nxH (nxH h most) (5:Int)) ((1:Int)+nxV code a h most) > (1:Int) then nxV code (l03DrawTable_c6 code a most) (nxH (nxH h most) (5:Int)) ((1:Int)+nxV code a h most) else (1:Int)) - (1:Int)≤(144:Int))∧(((0:Int)≤Int.tmod (2:Int) (if nxV code (nxA (code.length) (nxA (code.length) a most) (5:Int)) (nxH (nxH h most) (5:Int)) ((1:Int)+nxV code a h most) > (1:Int) then nxV code (l03DrawTable_c6 code a most) (nxH (nxH h most) (5:Int)) ((1:Int)+nxV code a h most) else (1:Int)))∧(Int.tmod (2:Int) (if nxV code (nxA (code.length) (nxA (code.length) a most) (5:Int)) (nxH (nxH h most) (5:Int)) ((1:Int)+nxV code a h most) > (1:Int) then nxV code (l03DrawTable_c6 code a most) (nxH (nxH h most) (5:Int)) ((1:Int)+nxV code a h most) else (1:Int))≤(144:Int)))))))∧True)∧((l03DrawTable_c7 code a h most)∧((l03DrawTable_c7 code a h most)∧(((1:Int)+nxV code a h most - nxV code (l03DrawTable_c6 code a most) (nxH (nxH h most) (5:Int)) ((1:Int)+nxV code a h most)≠(0:Int))∧(((((0:Int)≤(1:Int)+nxV code a h most - nxV code (l03DrawTable_c6 code a most) (nxH (nxH h most) (5:Int)) ((1:Int)+nxV code a h most)) ∧
 (((1:Int)+nxV code a h most - nxV code (l03DrawTable_c6 code a most) (nxH (nxH h most) (5:Int)) ((1:Int)+nxV code a h most)≤(144:Int))∧(((0:Int)≤Int.tmod (1:Int) ((1:Int)+nxV code a h most - nxV code (l03DrawTable_c6 code a most) (nxH (nxH h most) (5:Int)) ((1:Int)+nxV code a h most)))∧((Int.tmod (1:Int) ((1:Int)+nxV code a h most - nxV code (l03DrawTable_c6 code a most) (nxH (nxH h most) (5:Int)) ((1:Int)+nxV code a h most))≤(144:Int))∧(((0:Int)≤(0:Int))∧((0:Int)≤(144:Int)))))))∧True)∧(l03DrawTable_V2 code a h most))))))))))))))))
theorem l03DrawTable_vc (code:List Int) (a:Int) (h:Int) (most:Int):runF Tryz.prog (gam l03DrawTable_G) l03DrawTable_wr (l03DrawTable_ann code a h most) Tryz.f121 (bodyOf Tryz.f121) [(0,0)] [.box [.ints .u8 (code),.int .i64 (a),.int .u64 (h)],.c (.int .i64 (most))] (l03DrawTable_p code a h most)=l03DrawTable_V code a h most:=by kernel_rfl
theorem l03DrawTable_ok (code:List Int) (a:Int) (h:Int) (most:Int) (hpre:(l03DrawTable_p code a h most).pre):l03DrawTable_V code a h most:=by
 simp only [l03DrawTable_p,l03DrawTable_V,l03DrawTable_V3,l03DrawTable_V2,l03DrawTable_V1,l03DrawTable_c1,l03DrawTable_c2,l03DrawTable_c3,l03DrawTable_c4,l03DrawTable_c5,l03DrawTable_c6,l03DrawTable_c7,BrP_iff,u1,u2,u3,u4,u5,u6,u7,u8,u9,v1,v2,v3,v4,v5,v6,v7,v8,v9,w1,w2,w3,w4,markL_length,inB,InR,room,bdsOk] at hpre ⊢
 obtain ⟨hb,hc,h0,h1,h2,h3⟩:=hpre
 have v0:=nxV_in hb a h (n:=most) h2
 have a1:=nxA_in (n:=most) h0 h1
 have a2:=nxA_in (n:=5) a1.1 a1.2
 have hT:drT code a h most=drN code most (1+nxV code a h most) (nxV code (nxA code.length a most) (nxH h most) 5) (nxA code.length (nxA code.length a most) 5) (nxH (nxH h most) 5):=rfl
 generalize nxV code (nxA code.length a most) (nxH h most) 5=c at hT ⊢
 generalize nxA code.length (nxA code.length a most) 5=A at hT a2 ⊢
 generalize nxH (nxH h most) 5=H at hT ⊢
 generalize nxV code a h most=V at hT v0 ⊢
 refine ⟨⟨hb,by omega,by omega⟩,by omega,⟨hb,by omega,by omega⟩,fun c0=>?_,fun c0=>⟨fun c1=>?_,fun c1=>⟨fun c2=>?_,fun c2=>?_⟩⟩⟩
 ·rw [drN,if_pos c0] at hT
  have D:=dp_in hb (h:=H) a2.1 a2.2 (1+V).toNat
  refine ⟨⟨hb,a2.1,a2.2,hc,by omega,by omega⟩,⟨(0,1+V,(dpS code A H (1+V).toNat).1,(dpS code A H (1+V).toNat).2.1,(dpS code A H (1+V).toNat).2.2),?_⟩,?_⟩
  ·dsimp only
   exact ⟨⟨by omega,by omega,by omega,by omega,hT⟩,rfl,rfl,rfl,rfl,rfl,rfl⟩
  rintro ⟨i,n,p,b,g⟩ ⟨q1,q2,q3,q4,q5⟩
  dsimp only at q1 q2 q3 q4 q5 ⊢
  refine ⟨fun hl=>⟨by omega,by omega,by omega,(i+1,n,p,b,g),?_⟩,fun hl=>?_⟩
  ·dsimp only
   exact ⟨⟨by omega,q2,q3,q4,q5⟩,by omega,rfl,by omega,rfl,rfl,rfl,by rw [List.replicate_succ']⟩
  ·rw [q5,show i=n.toNat by omega];exact ⟨rfl,rfl,rfl⟩
 ·rw [drN,if_neg c0,if_pos c1] at hT
  have m:=tmod_in' (a:=2) (m:=1+V) (by omega) (by omega)
  rw [hT]
  exact ⟨by omega,by omega,⟨by omega,by omega,by omega,by omega,by omega,by omega⟩,rfl,rfl,rfl⟩
 ·rw [drN,if_neg c0,if_neg c1,if_pos c2] at hT
  refine ⟨⟨(0,1+V,A,H),?_⟩,?_⟩
  ·dsimp only
   exact ⟨⟨by omega,by omega,by omega,by omega,by omega,hT⟩,rfl,rfl,rfl,rfl⟩
  rintro ⟨j,n,b0,g0⟩ ⟨q1,q2,q3,q4,q5,q6⟩
  dsimp only at q1 q2 q3 q4 q5 q6 ⊢
  refine ⟨fun hl=>?_,fun hl=>?_⟩
  ·have w0:=nxV_in hb b0 g0 (n:=n) (by omega)
   have w1:=nxA_in (n:=n) q4 q5
   have st:tryC code n (6 - j) b0 g0=if cpD (nxV code b0 g0 n) n (n - 1).toNat 2=true then (some (nxV code b0 g0 n),nxA code.length b0 n,nxH g0 n) else tryC code n (6 - (j+1)) (nxA code.length b0 n) (nxH g0 n):=by
    rw [show 6 - j=(6 - (j+1))+1 by omega];rfl
   have m:=tmod_in' (a:=1 - nxV code b0 g0 n+n) (m:=n) (by omega) (by omega)
   refine ⟨⟨hb,by omega,by omega⟩,⟨by omega,by omega,by omega,by omega⟩,fun y=>?_,fun y=>?_⟩
   ·rw [st,if_pos y] at q6
    rw [q6]
    exact ⟨by omega,by omega,by omega,⟨by omega,by omega,by omega,by omega,by omega,by omega⟩,rfl,rfl,rfl⟩
   ·rw [st,if_neg (by rw [y];decide)] at q6
    refine ⟨by omega,(j+1,n,nxA code.length b0 n,nxH g0 n),?_⟩
    dsimp only
    exact ⟨⟨by omega,by omega,by omega,by omega,by omega,q6⟩,by omega,rfl,by omega,rfl,rfl⟩
  ·rw [show 6 - j=0 by omega] at q6
   have k0:=nxV_in hb b0 g0 (n:=n) (by omega)
   have s0:=nxA_in (n:=n) q4 q5
   have hT2:drT code a h most=tlK code (n) (nxV code b0 g0 (n)) (nxA code.length b0 (n)) (nxH g0 (n)):=q6
   generalize nxV code b0 g0 (n)=k at hT2 k0 ⊢
   generalize nxA code.length b0 (n)=b at hT2 s0 ⊢
   generalize nxH g0 (n)=g at hT2 ⊢
   have e1:(if k > 1 then k else 1)=mx1 k:=rfl
   have m1:1≤mx1 k∧mx1 k≤6∧(1≤k→mx1 k=k):=by unfold mx1;split <;> omega
   have m2:=tmod_in' (a:=2) (m:=mx1 k) (by omega) m1.1
   have m3:=tmod_in' (a:=1) (m:=n - k) (by omega) (by omega)
   rw [e1]
   refine ⟨⟨hb,by omega,by omega⟩,by omega,by omega,⟨by omega,by omega,by omega,by omega,by omega,by omega⟩,by omega,by omega,by omega,⟨by omega,by omega,by omega,by omega,by omega,by omega⟩,fun z=>?_,fun z=>?_⟩
   ·rw [hT2,tlK,if_pos z];exact ⟨rfl,rfl,rfl⟩
   have D:=dp_in hb (h:=g) s0.1 s0.2 (n - k).toNat
   have QA:sqB k (tlA k):=by
    have:=al_sq (n:=mx1 k) (a:=mx1 k - 1) (b:=(2:Int).tmod (mx1 k)) (by omega) (by omega) (by omega) (by omega)
    unfold tlA
    rw [m1.2.2 (by omega)] at this ⊢
    exact this
   have QB:sqB (n - k) (tlB (n) k):=al_sq (by omega) (by omega) (by omega) (by omega)
   refine ⟨by omega,⟨hb,s0.1,s0.2,hc,by omega,by omega⟩,⟨(0,n,k,tlA k,tlB (n) k,(dpS code b g (n - k).toNat).1,(dpS code b g (n - k).toNat).2.1,(dpS code b g (n - k).toNat).2.2),?_⟩,?_⟩
   ·dsimp only
    refine ⟨⟨by omega,by omega,by omega,by omega,QA,QB,by omega,fun x hx=>?_,?_⟩,rfl,rfl,rfl,rfl,rfl,rfl,rfl,rfl,by simp⟩
    ·have:=D.2.1 x hx;omega
    ·rw [hT2,tlK,if_neg z]
   rintro ⟨i,n,k,A,B,p,b,g⟩ ⟨hi,hk,hkn,hn,hA,hB,hp,hq,hR⟩
   dsimp only at hi hk hkn hn hA hB hp hq hR ⊢
   have hr:∀i:Nat,(tab n.toNat (mxF k A B p i)).length=n.toNat:=fun i=>tab_length _ _
   have hT0:(tabR n.toNat (mxF k A B p)).length=n.toNat:=tabR_length _ _
   refine ⟨fun hl=>⟨⟨0,⟨by omega,hl⟩,rfl,by simp⟩,fun j ⟨hj,_⟩=>⟨fun hj2=>?_,fun hj2=>?_⟩⟩,fun hl=>?_⟩
   ·have hi1:=hr i
    have step:∀v,mxF k A B p i j=v→List.take j (tab n.toNat (mxF k A B p i))++[v]=List.take (j+1) (tab n.toNat (mxF k A B p i)):=fun v hv=>by
     rw [←take_snoc _ 0 j (by omega),tab_getD _ _ _ (by omega),hv]
    have lB:k≤(i:Int)→k≤(j:Int)→(0≤(i:Int) - k∧(i:Int) - k<(B.length:Int))∧(0≤(j:Int) - k∧(j:Int) - k<((B.getD ((i:Int) - k).toNat []).length:Int))∧(0≤(B.getD ((i:Int) - k).toNat []).getD ((j:Int) - k).toNat 0∧(B.getD ((i:Int) - k).toNat []).getD ((j:Int) - k).toNat 0<(p.length:Int))∧0≤p.getD ((B.getD ((i:Int) - k).toNat []).getD ((j:Int) - k).toNat 0).toNat 0∧p.getD ((B.getD ((i:Int) - k).toNat []).getD ((j:Int) - k).toNat 0).toNat 0≤6:=fun x1 x2=>by
     have b1:=hB.1
     have b2:=hB.2 ((i:Int) - k).toNat (by omega)
     have b3:=b2.2 ((j:Int) - k).toNat (by omega)
     have hx:((B.getD ((i:Int) - k).toNat []).getD ((j:Int) - k).toNat 0).toNat<p.length:=by omega
     have b4:=hq _ (List.getElem_mem hx)
     rw [←getD_lt p 0 _ hx] at b4
     exact ⟨by omega,by omega,by omega,by omega,by omega⟩
    refine ⟨fun x1=>⟨fun x2=>?_,fun x2=>⟨fun x3=>by omega,fun _=>?_⟩⟩,fun x1=>⟨fun x3=>⟨fun x4=>?_,fun x4=>?_⟩,fun x3=>by omega⟩⟩
    ·have a1:=hA.1
     have a2:=hA.2 i (by omega)
     exact ⟨by omega,by omega,by omega,by omega,j+1,⟨by omega,hl⟩,by omega,by omega,step _ (if_pos ⟨x1,x2⟩)⟩
    ·exact ⟨by omega,by omega,j+1,⟨by omega,hl⟩,by omega,by omega,step _ (by rw [mxF,if_neg fun e=>x2 e.2,if_neg fun e=>by omega])⟩
    ·obtain ⟨l1,l2,l3,l4,l5⟩:=lB x3 x4
     exact ⟨by omega,l1,by omega,l2,l3,by omega,by omega,by omega,j+1,⟨by omega,hl⟩,by omega,by omega,step _ (by rw [mxF,if_neg fun e=>x1 e.1,if_pos ⟨x3,x4⟩])⟩
    ·exact ⟨by omega,by omega,j+1,⟨by omega,hl⟩,by omega,by omega,step _ (by rw [mxF,if_neg fun e=>x1 e.1,if_neg fun e=>x4 e.2])⟩
   ·have hi1:=hr i
    refine ⟨by omega,by omega,(i+1,n,k,A,B,p,b,g),?_⟩
    dsimp only
    refine ⟨⟨by omega,hk,hkn,hn,hA,hB,hp,hq,hR⟩,by omega,rfl,rfl,by omega,rfl,rfl,rfl,rfl,rfl,?_⟩
    rw [←take_snoc (tabR n.toNat (mxF k A B p)) [] i (by omega),tabR_getD _ _ _ (by omega),show (tab n.toNat (mxF k A B p i)).take j=tab n.toNat (mxF k A B p i) from List.take_of_length_le (by omega)]
   ·rw [hR,List.take_of_length_le (by omega)];exact ⟨rfl,rfl,rfl⟩
 ·rw [drN,if_neg c0,if_neg c1,if_neg c2] at hT
  refine (fun (w:drT code a h most=drTail code (1+V) A H→_)=>⟨fun c3=>⟨fun hm=>?_,fun hm=>w (by rw [hT,if_neg (by omega)])⟩,fun c3=>w (by rw [hT,if_neg (fun e=>c3 e.1)])⟩) ?_
  ·intro hT
   have k0:=nxV_in hb A H (n:=1+V) (by omega)
   have s0:=nxA_in (n:=1+V) a2.1 a2.2
   have hT2:drT code a h most=tlK code (1+V) (nxV code A H (1+V)) (nxA code.length A (1+V)) (nxH H (1+V)):=hT
   generalize nxV code A H (1+V)=k at hT2 k0 ⊢
   generalize nxA code.length A (1+V)=b at hT2 s0 ⊢
   generalize nxH H (1+V)=g at hT2 ⊢
   have e1:(if k > 1 then k else 1)=mx1 k:=rfl
   have m1:1≤mx1 k∧mx1 k≤6∧(1≤k→mx1 k=k):=by unfold mx1;split <;> omega
   have m2:=tmod_in' (a:=2) (m:=mx1 k) (by omega) m1.1
   have m3:=tmod_in' (a:=1) (m:=1+V - k) (by omega) (by omega)
   rw [e1]
   refine ⟨⟨hb,by omega,by omega⟩,by omega,by omega,⟨by omega,by omega,by omega,by omega,by omega,by omega⟩,by omega,by omega,by omega,⟨by omega,by omega,by omega,by omega,by omega,by omega⟩,fun z=>?_,fun z=>?_⟩
   ·rw [hT2,tlK,if_pos z];exact ⟨rfl,rfl,rfl⟩
   have D:=dp_in hb (h:=g) s0.1 s0.2 (1+V - k).toNat
   have QA:sqB k (tlA k):=by
    have:=al_sq (n:=mx1 k) (a:=mx1 k - 1) (b:=(2:Int).tmod (mx1 k)) (by omega) (by omega) (by omega) (by omega)
    unfold tlA
    rw [m1.2.2 (by omega)] at this ⊢
    exact this
   have QB:sqB (1+V - k) (tlB (1+V) k):=al_sq (by omega) (by omega) (by omega) (by omega)
   refine ⟨by omega,⟨hb,s0.1,s0.2,hc,by omega,by omega⟩,⟨(0,1+V,k,tlA k,tlB (1+V) k,(dpS code b g (1+V - k).toNat).1,(dpS code b g (1+V - k).toNat).2.1,(dpS code b g (1+V - k).toNat).2.2),?_⟩,?_⟩
   ·dsimp only
    refine ⟨⟨by omega,by omega,by omega,by omega,QA,QB,by omega,fun x hx=>?_,?_⟩,rfl,rfl,rfl,rfl,rfl,rfl,rfl,rfl,by simp⟩
    ·have:=D.2.1 x hx;omega
    ·rw [hT2,tlK,if_neg z]
   rintro ⟨i,n,k,A,B,p,b,g⟩ ⟨hi,hk,hkn,hn,hA,hB,hp,hq,hR⟩
   dsimp only at hi hk hkn hn hA hB hp hq hR ⊢
   have hr:∀i:Nat,(tab n.toNat (mxF k A B p i)).length=n.toNat:=fun i=>tab_length _ _
   have hT0:(tabR n.toNat (mxF k A B p)).length=n.toNat:=tabR_length _ _
   refine ⟨fun hl=>⟨⟨0,⟨by omega,hl⟩,rfl,by simp⟩,fun j ⟨hj,_⟩=>⟨fun hj2=>?_,fun hj2=>?_⟩⟩,fun hl=>?_⟩
   ·have hi1:=hr i
    have step:∀v,mxF k A B p i j=v→List.take j (tab n.toNat (mxF k A B p i))++[v]=List.take (j+1) (tab n.toNat (mxF k A B p i)):=fun v hv=>by
     rw [←take_snoc _ 0 j (by omega),tab_getD _ _ _ (by omega),hv]
    have lB:k≤(i:Int)→k≤(j:Int)→(0≤(i:Int) - k∧(i:Int) - k<(B.length:Int))∧(0≤(j:Int) - k∧(j:Int) - k<((B.getD ((i:Int) - k).toNat []).length:Int))∧(0≤(B.getD ((i:Int) - k).toNat []).getD ((j:Int) - k).toNat 0∧(B.getD ((i:Int) - k).toNat []).getD ((j:Int) - k).toNat 0<(p.length:Int))∧0≤p.getD ((B.getD ((i:Int) - k).toNat []).getD ((j:Int) - k).toNat 0).toNat 0∧p.getD ((B.getD ((i:Int) - k).toNat []).getD ((j:Int) - k).toNat 0).toNat 0≤6:=fun x1 x2=>by
     have b1:=hB.1
     have b2:=hB.2 ((i:Int) - k).toNat (by omega)
     have b3:=b2.2 ((j:Int) - k).toNat (by omega)
     have hx:((B.getD ((i:Int) - k).toNat []).getD ((j:Int) - k).toNat 0).toNat<p.length:=by omega
     have b4:=hq _ (List.getElem_mem hx)
     rw [←getD_lt p 0 _ hx] at b4
     exact ⟨by omega,by omega,by omega,by omega,by omega⟩
    refine ⟨fun x1=>⟨fun x2=>?_,fun x2=>⟨fun x3=>by omega,fun _=>?_⟩⟩,fun x1=>⟨fun x3=>⟨fun x4=>?_,fun x4=>?_⟩,fun x3=>by omega⟩⟩
    ·have a1:=hA.1
     have a2:=hA.2 i (by omega)
     exact ⟨by omega,by omega,by omega,by omega,j+1,⟨by omega,hl⟩,by omega,by omega,step _ (if_pos ⟨x1,x2⟩)⟩
    ·exact ⟨by omega,by omega,j+1,⟨by omega,hl⟩,by omega,by omega,step _ (by rw [mxF,if_neg fun e=>x2 e.2,if_neg fun e=>by omega])⟩
    ·obtain ⟨l1,l2,l3,l4,l5⟩:=lB x3 x4
     exact ⟨by omega,l1,by omega,l2,l3,by omega,by omega,by omega,j+1,⟨by omega,hl⟩,by omega,by omega,step _ (by rw [mxF,if_neg fun e=>x1 e.1,if_pos ⟨x3,x4⟩])⟩
    ·exact ⟨by omega,by omega,j+1,⟨by omega,hl⟩,by omega,by omega,step _ (by rw [mxF,if_neg fun e=>x1 e.1,if_neg fun e=>x4 e.2])⟩
   ·have hi1:=hr i
    refine ⟨by omega,by omega,(i+1,n,k,A,B,p,b,g),?_⟩
    dsimp only
    refine ⟨⟨by omega,hk,hkn,hn,hA,hB,hp,hq,hR⟩,by omega,rfl,rfl,by omega,rfl,rfl,rfl,rfl,rfl,?_⟩
    rw [←take_snoc (tabR n.toNat (mxF k A B p)) [] i (by omega),tabR_getD _ _ _ (by omega),show (tab n.toNat (mxF k A B p i)).take j=tab n.toNat (mxF k A B p i) from List.take_of_length_le (by omega)]
   ·rw [hR,List.take_of_length_le (by omega)];exact ⟨rfl,rfl,rfl⟩
  ·rw [if_pos ⟨c3,hm⟩] at hT
   refine ⟨⟨hb,by omega,by omega⟩,fun z=>⟨⟨(0,tri3,nxA code.length A 2,nxH H 2),?_⟩,?_⟩,fun z=>⟨⟨(0,perms3,nxA code.length A 2,nxH H 2),?_⟩,?_⟩⟩
   ·dsimp only
    exact ⟨⟨Nat.zero_le _,cjOk_of cjOk_t,by rw [hT,if_pos z]⟩,rfl,rfl,rfl,rfl,by simp⟩
   ·rintro ⟨x,A,b,g⟩ ⟨q1,Q,q3⟩
    dsimp only at q1 Q q3 ⊢
    have e:(FC.rows IntKind.i64 A).len=A.length:=rfl
    simp only [e]
    have L:=Q.le
    refine ⟨fun hx=>⟨⟨0,⟨by omega,by omega⟩,rfl,by simp⟩,fun y ⟨hy,_⟩=>⟨fun hl=>?_,fun hl=>?_⟩⟩,fun hx=>?_⟩
    ·have hx:x<A.length:=by omega
     have hy:y<A.length:=by omega
     have lx:=Q.len x hx
     have ly:=Q.len y hy
     have bk:=Q.bk x hx
     have th:=Q.th x y hx hy
     have ai:=Q.at_ x y hx hy
     obtain ⟨i1,i2⟩:=fIx_at _ _ ai
     refine ⟨by omega,⟨by omega,by rw [lx];exact Q.el x hx⟩,by omega,⟨by omega,by rw [ly];exact bk.2⟩,by omega,⟨by omega,by rw [lx];exact th.2⟩,⟨0,⟨Nat.zero_le _,by omega⟩,rfl,rfl⟩,fun i ⟨hi,_⟩=>⟨by omega,by have:=Q.len i (by omega);omega,fun ne=>?_,fun eq=>?_⟩⟩
     ·have:i≠fIx (cjZ A x y) A:=fun e=>ne (by rw [e];exact i1)
      exact ⟨by omega,i+1,⟨by omega,by omega⟩,by omega,by omega⟩
     ·have:i=fIx (cjZ A x y) A:=by
       by_cases w:i<fIx (cjZ A x y) A
       ·exact absurd eq (i2 i w)
       ·omega
      refine ⟨by rw [tab_length];omega,by omega,y+1,⟨by omega,hx⟩,by omega,by omega,?_⟩
      rw [←take_snoc _ 0 y (by rw [tab_length];omega),tab_getD _ _ _ hy,cjF,←this]
    ·refine ⟨by omega,by omega,(x+1,A,b,g),?_⟩
     dsimp only
     refine ⟨⟨by omega,Q,q3⟩,by omega,by omega,rfl,rfl,rfl,?_⟩
     rw [←take_snoc (cjT A) [] x (by rw [cjT,tabR_length];omega),show (cjT A).getD x []=_ from tabR_getD _ _ _ (by omega),show (tab A.length (cjF A x)).take y=tab A.length (cjF A x) from List.take_of_length_le (by rw [tab_length];omega)]
    ·rw [q3,List.take_of_length_le (by rw [cjT,tabR_length];omega)];exact ⟨rfl,rfl,rfl⟩
   ·dsimp only
    exact ⟨⟨Nat.zero_le _,cjOk_of cjOk_p,by rw [hT,if_neg z]⟩,rfl,rfl,rfl,rfl,by simp⟩
   ·rintro ⟨x,A,b,g⟩ ⟨q1,Q,q3⟩
    dsimp only at q1 Q q3 ⊢
    have e:(FC.rows IntKind.i64 A).len=A.length:=rfl
    simp only [e]
    have L:=Q.le
    refine ⟨fun hx=>⟨⟨0,⟨by omega,by omega⟩,rfl,by simp⟩,fun y ⟨hy,_⟩=>⟨fun hl=>?_,fun hl=>?_⟩⟩,fun hx=>?_⟩
    ·have hx:x<A.length:=by omega
     have hy:y<A.length:=by omega
     have lx:=Q.len x hx
     have ly:=Q.len y hy
     have bk:=Q.bk x hx
     have th:=Q.th x y hx hy
     have ai:=Q.at_ x y hx hy
     obtain ⟨i1,i2⟩:=fIx_at _ _ ai
     refine ⟨by omega,⟨by omega,by rw [lx];exact Q.el x hx⟩,by omega,⟨by omega,by rw [ly];exact bk.2⟩,by omega,⟨by omega,by rw [lx];exact th.2⟩,⟨0,⟨Nat.zero_le _,by omega⟩,rfl,rfl⟩,fun i ⟨hi,_⟩=>⟨by omega,by have:=Q.len i (by omega);omega,fun ne=>?_,fun eq=>?_⟩⟩
     ·have:i≠fIx (cjZ A x y) A:=fun e=>ne (by rw [e];exact i1)
      exact ⟨by omega,i+1,⟨by omega,by omega⟩,by omega,by omega⟩
     ·have:i=fIx (cjZ A x y) A:=by
       by_cases w:i<fIx (cjZ A x y) A
       ·exact absurd eq (i2 i w)
       ·omega
      refine ⟨by rw [tab_length];omega,by omega,y+1,⟨by omega,hx⟩,by omega,by omega,?_⟩
      rw [←take_snoc _ 0 y (by rw [tab_length];omega),tab_getD _ _ _ hy,cjF,←this]
    ·refine ⟨by omega,by omega,(x+1,A,b,g),?_⟩
     dsimp only
     refine ⟨⟨by omega,Q,q3⟩,by omega,by omega,rfl,rfl,rfl,?_⟩
     rw [←take_snoc (cjT A) [] x (by rw [cjT,tabR_length];omega),show (cjT A).getD x []=_ from tabR_getD _ _ _ (by omega),show (tab A.length (cjF A x)).take y=tab A.length (cjF A x) from List.take_of_length_le (by rw [tab_length];omega)]
    ·rw [q3,List.take_of_length_le (by rw [cjT,tabR_length];omega)];exact ⟨rfl,rfl,rfl⟩
theorem l03DrawTable_fits:Fits Tryz.prog 121 ⟨[(0,0)],l03DrawTable_ct⟩:=by
 refine ffn (Γ:=gam l03DrawTable_G) (gok_cons l01Next_fits (gok_cons l03DrawPerm_fits (gok_cons l01Own_fits (gok_cons l03Alexander_fits (gok_cons l03Coprime_fits (gok_cons l01Perms3_fits (gok_cons l01BackG_fits (gok_cons l01ThenG_fits (gok_cons l01Same_fits gok_nil))))))))) Tryz.func121 fun ds p h hp=>?_
 unfold l03DrawTable_ct at h
 split at h
 ·cases h
  exact ⟨l03DrawTable_wr,l03DrawTable_ann _ _ _ _ ,by rw [l03DrawTable_vc];exact l03DrawTable_ok _ _ _ _  hp⟩
 ·cases h
end Go.Sx
end
section
open Go Go.Proofs
namespace Go.Sx
set_option linter.unusedSimpArgs false
set_option linter.unusedVariables false
def okD (code:List Int) (d:Dr):Prop:=1≤d.1.length∧d.1.length≤6∧sqB (d.1.length:Int) d.1∧0≤d.2.1∧d.2.1≤(code.length:Int)
theorem okD_of {code:List Int} {n:Int} {t:List (List Int)} {s:Int×Int} (h:sqB n t) (h1:1≤n) (h2:n≤6) (h3:0≤s.1∧s.1≤(code.length:Int)):okD code (t,s):=by
 have e:=h.1
 refine ⟨?_,?_,?_,h3.1,h3.2⟩
 ·show 1≤t.length;omega
 ·show t.length≤6;omega
 ·show sqB (t.length:Int) t;rw [e];exact h
theorem mx_sq {n k:Int} {A B:List (List Int)} {p:List Int} (hk:1≤k) (hkn:k<n) (hA:sqB k A) (hB:sqB (n - k) B) (hp:(p.length:Int)=n - k) (hq:∀x∈p,0≤x∧x≤n - k - 1):sqB n (tabR n.toNat (mxF k A B p)) :=
 sq_tabR _ (by omega) fun x y hx hy=>by
  unfold mxF
  split
  ·rename_i e
   have a1:=hA.1
   have a2:=(hA.2 x (by omega)).2 y (by omega)
   omega
  ·split
   ·rename_i e
    have b1:=hB.1
    have b2:=hB.2 ((x:Int) - k).toNat (by omega)
    have b3:=b2.2 ((y:Int) - k).toNat (by omega)
    have hx:((B.getD ((x:Int) - k).toNat []).getD ((y:Int) - k).toNat 0).toNat<p.length:=by omega
    have b4:=hq _ (List.getElem_mem hx)
    rw [←getD_lt p 0 _ hx] at b4
    omega
   ·omega
theorem tlK_ok {code:List Int} (hb:bytesB code) {n k a h:Int} (hn:n≤6) (hk:0≤k) (hkn:k<n) (ha:0≤a) (ha2:a≤(code.length:Int)):okD code (tlK code n k a h):=by
 have m3:=tmod_in' (a:=1) (m:=n - k) (by omega) (by omega)
 have QB:sqB (n - k) (tlB n k):=al_sq (by omega) (by omega) (by omega) (by omega)
 unfold tlK
 split
 ·rename_i z
  subst z
  exact okD_of QB (by omega) (by omega) ⟨ha,ha2⟩
 ·have D:=dp_in hb (h:=h) ha ha2 (n - k).toNat
  have m1:1≤mx1 k∧mx1 k≤6∧(1≤k→mx1 k=k):=by unfold mx1;split <;> omega
  have m2:=tmod_in' (a:=2) (m:=mx1 k) (by omega) m1.1
  have QA:sqB k (tlA k):=by
   have:=al_sq (n:=mx1 k) (a:=mx1 k - 1) (b:=(2:Int).tmod (mx1 k)) (by omega) (by omega) (by omega) (by omega)
   unfold tlA
   rw [m1.2.2 (by omega)] at this ⊢
   exact this
  exact okD_of (mx_sq (by omega) hkn QA QB (by have:=D.1;omega) fun x hx=>by have:=D.2.1 x hx;omega) (by omega) hn D.2.2
theorem drTail_ok {code:List Int} (hb:bytesB code) {n a h:Int} (h1:1≤n) (hn:n≤6) (ha:0≤a) (ha2:a≤(code.length:Int)):okD code (drTail code n a h):=by
 have v:=nxV_in hb a h (n:=n) h1
 have s:=nxA_in (n:=n) ha ha2
 exact tlK_ok hb hn (by omega) (by omega) s.1 s.2
theorem tryC_ok {code:List Int} (hb:bytesB code) {n:Int} (h1:1≤n) (hn:n≤6):∀(j:Nat) (a h:Int),0≤a→a≤(code.length:Int)→okD code (drC code n (tryC code n j a h))
 | 0,a,h,ha,ha2=>drTail_ok hb h1 hn ha ha2
 | j+1,a,h,ha,ha2=>by
  have v:=nxV_in hb a h (n:=n) h1
  have s:=nxA_in (n:=n) ha ha2
  unfold tryC
  split
  ·have m:=tmod_in' (a:=1 - nxV code a h n+n) (m:=n) (by omega) h1
   exact okD_of (al_sq (by omega) (by omega) (by omega) (by omega)) h1 hn s
  ·exact tryC_ok hb h1 hn j _ _ s.1 s.2
theorem sq_rep {n:Int} {p:List Int} (h0:0≤n) (hp:(p.length:Int)=n) (hq:∀x∈p,0≤x∧x≤n - 1):sqB n (List.replicate n.toNat p):=by
 refine ⟨by simp;omega,fun i hi=>?_⟩
 rw [List.length_replicate] at hi
 have:(List.replicate n.toNat p).getD i []=p:=by simp [List.getD_eq_getElem?_getD,List.getElem?_replicate,hi]
 rw [this]
 refine ⟨hp,fun j hj=>?_⟩
 rw [List.length_replicate] at hj
 have hj:j<p.length:=by omega
 have b4:=hq _ (List.getElem_mem hj)
 rwa [←getD_lt p 0 _ hj] at b4
theorem cj_sq {A:List (List Int)} (h:CjOk A):sqB (A.length:Int) (cjT A):=by
 have:=sq_tabR (n:=(A.length:Int)) (cjF A) (by omega) fun x y hx hy=>by
  have:=h.at_ x y (by omega) (by omega)
  unfold cjF
  omega
 exact this
theorem drN_ok {code:List Int} (hb:bytesB code) {most n c a h:Int} (h1:1≤n) (hn:n≤6) (ha:0≤a) (ha2:a≤(code.length:Int)):okD code (drN code most n c a h):=by
 unfold drN
 split
 ·have D:=dp_in hb (h:=h) ha ha2 n.toNat
  exact okD_of (sq_rep (by omega) (by have:=D.1;omega) fun x hx=>by have:=D.2.1 x hx;omega) h1 hn D.2.2
 ·split
  ·have m:=tmod_in' (a:=2) (m:=n) (by omega) h1
   exact okD_of (al_sq (by omega) (by omega) (by omega) (by omega)) h1 hn ⟨ha,ha2⟩
  ·split
   ·exact tryC_ok hb h1 hn 6 a h ha ha2
   ·split
    ·have w:=nxA_in (n:=2) ha ha2
     have c:CjOk (if nxV code a h 2=0 then tri3 else perms3):=by
      split
      ·exact cjOk_of cjOk_t
      ·exact cjOk_of cjOk_p
     exact okD_of (cj_sq c) (by have:=c.ge;omega) (by have:=c.le;omega) w
    ·exact drTail_ok hb h1 hn ha ha2
theorem drT_ok {code:List Int} (hb:bytesB code) {a h most:Int} (h1:1≤most) (h5:most≤6) (ha:0≤a) (ha2:a≤(code.length:Int)):okD code (drT code a h most):=by
 have v0:=nxV_in hb a h (n:=most) h1
 have a1:=nxA_in (n:=most) ha ha2
 have a2:=nxA_in (n:=5) a1.1 a1.2
 exact drN_ok hb (by omega) (by omega) a2.1 a2.2
def imD (code:List Int) (d:Dr) (a h:Int):Dr:=(imL d.1 (dpS code a h d.1.length).1 d.1.length,(dpS code a h d.1.length).2)
def drD1 (code:List Int) (d:Dr):Dr :=
 if nxV code d.2.1 d.2.2 2=0 then imD code d (nxA code.length d.2.1 2) (nxH d.2.2 2) else (d.1,nxA code.length d.2.1 2,nxH d.2.2 2)
def drD (code:List Int) (a h most:Int):Dr:=drD1 code (drT code a h most)
theorem dp_get {code:List Int} (hb:bytesB code) {a h:Int} (h0:0≤a) (h1:a≤(code.length:Int)) (n:Nat):(dpS code a h n).1.length=n∧∀i,i<(dpS code a h n).1.length→0≤(dpS code a h n).1.getD i 0∧(dpS code a h n).1.getD i 0≤(n:Int) - 1:=by
 have D:=dp_in hb (h:=h) h0 h1 n
 refine ⟨D.1,fun i hi=>?_⟩
 have:=D.2.1 _ (List.getElem_mem hi)
 rwa [←getD_lt _ 0 i hi] at this
theorem drD1_ok {code:List Int} (hb:bytesB code) {d:Dr} (h:okD code d):okD code (drD1 code d):=by
 obtain ⟨h1,h2,h3,h4,h5⟩:=h
 have s:=nxA_in (n:=2) h4 h5
 unfold drD1
 split
 ·have D:=dp_get hb (h:=nxH d.2.2 2) s.1 s.2 d.1.length
  have E:=dp_in hb (h:=nxH d.2.2 2) s.1 s.2 d.1.length
  exact okD_of (imL_sq h3 D.1 D.2 _ (Nat.le_refl _)) (by omega) (by omega) E.2.2
 ·exact ⟨h1,h2,h3,s⟩
theorem sq_room {n:Int} {t:List (List Int)} (h:sqB n t) (h1:n≤144):roomR t:=by
 have e:=h.1
 refine ⟨by omega,fun r hr=>?_⟩
 obtain ⟨i,hi,rfl⟩:=List.mem_iff_getElem.1 hr
 have:=(h.2 i hi).1
 rw [getD_lt t [] i hi] at this
 omega
def l03Draw_p (code:List Int) (a:Int) (h:Int) (most:Int):Post:=⟨bytesB code∧code.length≤4096∧0≤a∧a≤(code.length:Int)∧1≤most∧most≤6,.agg [.rows 31 2 .i64 ((drD code a h most).1)],[.bx [.ints .u8 (code),.int .i64 ((drD code a h most).2.1),.int .u64 ((drD code a h most).2.2)]]⟩
def l03Draw_ct:List AD→Option Post
 | [.box [.ints .u8 (code),.int .i64 (a),.int .u64 (h)],.c (.int .i64 (most))]=>some (l03Draw_p code a h most)
 | _=>none
def l03Draw_G:List (Nat×Ctr):=[(47,⟨[(0,0)],l01Next_ct⟩),(88,⟨[(0,0)],l03DrawPerm_ct⟩),(121,⟨[(0,0)],l03DrawTable_ct⟩),(122,⟨[],l03Image_ct⟩)]
def l03Draw_c1 (code:List Int) (a:Int) (h:Int) (most:Int):=(dpS code (nxA (code.length) (((drT code a h most).2).1) (2:Int)) (nxH (((drT code a h most).2).2) (2:Int)) ((↑(((drT code a h most).1).length):Int).toNat))
def l03Draw_V (code:List Int) (a:Int) (h:Int) (most:Int):Prop :=
 ((((bytesB code)∧((code.length≤(4096:Nat))∧(((0:Int)≤a)∧((a≤(↑(code.length):Int))∧(((1:Int)≤most)∧(most≤(6:Int)))))))∧((code=code)∧True))∧((((bytesB code)∧(((0:Int)≤((drT code a h most).2).1)∧(((drT code a h most).2).1≤(1099511627776:Int))))∧((code=code)∧True))∧(BrP (nxV code (((drT code a h most).2).1) (((drT code a h most).2).2) (2:Int) == (0:Int)) ((((bytesB code)∧(((0:Int)≤nxA (code.length) (((drT code a h most).2).1) (2:Int))∧((nxA (code.length) (((drT code a h most).2).1) (2:Int)≤(↑(code.length):Int))∧((code.length≤(4096:Nat))∧(((0:Int)≤(↑(((drT code a h most).1).length):Int))∧((↑(((drT code a h most).1).length):Int)≤(144:Int)))))))∧((code=code)∧True))∧((((roomR ((drT code a h most).1))∧((((drT code a h most).1).length≤(144:Nat))∧((sqB (↑(((drT code a h most).1).length):Int) ((drT code a h most).1))∧((((l03Draw_c1 code a h most).1).length=((drT code a h most).1).length)∧(∀(i:Nat),i<((l03Draw_c1 code a h most).1).length→(0:Int)≤((l03Draw_c1 code a h most).1).getD i (0:Int)∧((l03Draw_c1 code a h most).1).getD i (0:Int)≤(↑(((drT code a h most).1).length):Int) - (1:Int))))))∧True)∧(((imL ((drT code a h most).1) ((l03Draw_c1 code a h most).1) (((drT code a h most).1).length)=(drD code a h most).1)∧True)∧(((code=code)∧((((l03Draw_c1 code a h most).2).1=((drD code a h most).2).1)∧((((l03Draw_c1 code a h most).2).2=((drD code a h most).2).2)∧True)))∧True)))) ((((drT code a h most).1=(drD code a h most).1)∧True) ∧
 (((code=code)∧((nxA (code.length) (((drT code a h most).2).1) (2:Int)=((drD code a h most).2).1)∧((nxH (((drT code a h most).2).2) (2:Int)=((drD code a h most).2).2)∧True)))∧True)))))
theorem l03Draw_vc (code:List Int) (a:Int) (h:Int) (most:Int):runF Tryz.prog (gam l03Draw_G) noWr noAnn Tryz.f87 (bodyOf Tryz.f87) [(0,0)] [.box [.ints .u8 (code),.int .i64 (a),.int .u64 (h)],.c (.int .i64 (most))] (l03Draw_p code a h most)=l03Draw_V code a h most:=by kernel_rfl
theorem l03Draw_ok (code:List Int) (a:Int) (h:Int) (most:Int) (hpre:(l03Draw_p code a h most).pre):l03Draw_V code a h most:=by
 simp only [l03Draw_p,l03Draw_V,l03Draw_c1,BrP_iff,u1,u2,u3,u4,u5,u6,u7,u8,u9,v1,v2,v3,v4,v5,v6,v7,v8,v9,w1,w2,w3,w4,markL_length,inB,InR,room,bdsOk] at hpre ⊢
 obtain ⟨hb,hc,h0,h1,h2,h3⟩:=hpre
 have K:=drT_ok hb (h:=h) h2 h3 h0 h1
 have e:drD code a h most=drD1 code (drT code a h most):=rfl
 rw [e]
 generalize drT code a h most=d at K ⊢
 obtain ⟨k1,k2,k3,k4,k5⟩:=K
 have s:=nxA_in (n:=2) k4 k5
 have D:=dp_get hb (h:=nxH d.2.2 2) s.1 s.2 d.1.length
 refine ⟨⟨hb,hc,h0,h1,h2,h3⟩,⟨hb,k4,by omega⟩,fun z=>?_,fun z=>?_⟩
 ·rw [drD1,if_pos z]
  exact ⟨⟨hb,s.1,s.2,hc,by omega,by omega⟩,⟨sq_room k3 (by omega),by omega,k3,D.1,D.2⟩,rfl,rfl,rfl⟩
 ·rw [drD1,if_neg z];exact ⟨rfl,rfl,rfl⟩
theorem l03Draw_fits:Fits Tryz.prog 87 ⟨[(0,0)],l03Draw_ct⟩:=by
 refine ffn (Γ:=gam l03Draw_G) (gok_cons l01Next_fits (gok_cons l03DrawPerm_fits (gok_cons l03DrawTable_fits (gok_cons l03Image_fits gok_nil)))) Tryz.func87 fun ds p h hp=>?_
 unfold l03Draw_ct at h
 split at h
 ·cases h
  exact ⟨noWr,noAnn,by rw [l03Draw_vc];exact l03Draw_ok _ _ _ _  hp⟩
 ·cases h
abbrev Dy:=List (List Int)×Nat×Int×Int
def yRow (code:List Int) (d:Dr) (a h:Int):Dy :=
 let p:=dpS code (nxA code.length a d.1.length) (nxH h d.1.length) d.1.length
 (d.1.set (nxV code a h d.1.length).toNat p.1,0,p.2)
def yCell (code:List Int) (d:Dr) (a h:Int):Dy :=
 let n:Int:=d.1.length
 let i:=(nxV code a h n).toNat
 let a2:=nxA code.length a n
 let h2:=nxH h n
 let j:=(nxV code a2 h2 n).toNat
 let a3:=nxA code.length a2 n
 let h3:=nxH h2 n
 (d.1.set i ((d.1.getD i []).set j (nxV code a3 h3 (n+1))),0,nxA code.length a3 (n+1),nxH h3 (n+1))
def drY1 (code:List Int) (d:Dr):Dy :=
 let c:=nxV code d.2.1 d.2.2 24
 let a:=nxA code.length d.2.1 24
 let h:=nxH d.2.2 24
 if c=0 then yRow code d a h else if c=1 then yCell code d a h else if c=2 then (d.1,1,a,h) else (d.1,0,a,h)
def drY (code:List Int) (a h most:Int):Dy:=drY1 code (drD code a h most)
def l03DrawAny_p (code:List Int) (a:Int) (h:Int) (most:Int):Post:=⟨bytesB code∧code.length≤4096∧0≤a∧a≤(code.length:Int)∧1≤most∧most≤6,.agg [.cut ((drY code a h most).2.1) ((drY code a h most).1.length - (drY code a h most).2.1) 31 2 .i64 ((drY code a h most).1)],[.bx [.ints .u8 (code),.int .i64 ((drY code a h most).2.2.1),.int .u64 ((drY code a h most).2.2.2)]]⟩
def l03DrawAny_ct:List AD→Option Post
 | [.box [.ints .u8 (code),.int .i64 (a),.int .u64 (h)],.c (.int .i64 (most))]=>some (l03DrawAny_p code a h most)
 | _=>none
def l03DrawAny_G:List (Nat×Ctr):=[(47,⟨[(0,0)],l01Next_ct⟩),(88,⟨[(0,0)],l03DrawPerm_ct⟩),(87,⟨[(0,0)],l03Draw_ct⟩)]
def l03DrawAny_c1 (code:List Int) (a:Int) (h:Int) (most:Int):=(nxA (code.length) (nxA (code.length) (((drD code a h most).2).1) (24:Int)) (↑(((drD code a h most).1).length):Int))
def l03DrawAny_c2 (code:List Int) (a:Int) (h:Int) (most:Int):=(nxV code (nxA (code.length) (((drD code a h most).2).1) (24:Int)) (nxH (((drD code a h most).2).2) (24:Int)) (↑(((drD code a h most).1).length):Int))
def l03DrawAny_c3 (code:List Int) (a:Int) (h:Int) (most:Int):=(↑(((drD code a h most).1).length):Int)
def l03DrawAny_c4 (code:List Int) (a:Int) (h:Int) (most:Int):=(nxH (nxH (((drD code a h most).2).2) (24:Int)) (l03DrawAny_c3 code a h most))
def l03DrawAny_V (code:List Int) (a:Int) (h:Int) (most:Int):Prop :=
 ((((bytesB code)∧((code.length≤(4096:Nat))∧(((0:Int)≤a)∧((a≤(↑(code.length):Int))∧(((1:Int)≤most)∧(most≤(6:Int)))))))∧((code=code)∧True))∧((((bytesB code)∧(((0:Int)≤((drD code a h most).2).1)∧(((drD code a h most).2).1≤(1099511627776:Int))))∧((code=code)∧True))∧(BrP (nxV code (((drD code a h most).2).1) (((drD code a h most).2).2) (24:Int) == (0:Int)) ((((bytesB code)∧(((0:Int)≤nxA (code.length) (((drD code a h most).2).1) (24:Int))∧(nxA (code.length) (((drD code a h most).2).1) (24:Int)≤(1099511627776:Int))))∧((code=code)∧True))∧((((bytesB code)∧(((0:Int)≤nxA (code.length) (nxA (code.length) (((drD code a h most).2).1) (24:Int)) (l03DrawAny_c3 code a h most))∧((nxA (code.length) (nxA (code.length) (((drD code a h most).2).1) (24:Int)) (l03DrawAny_c3 code a h most)≤(↑(code.length):Int))∧((code.length≤(4096:Nat))∧(((0:Int)≤(l03DrawAny_c3 code a h most))∧((l03DrawAny_c3 code a h most)≤(144:Int)))))))∧((code=code)∧True))∧((inB (l03DrawAny_c2 code a h most) (((drD code a h most).1).length))∧(((((0:Nat)=((drY code a h most).2).1)∧(((List.set ((drD code a h most).1) ((l03DrawAny_c2 code a h most).toNat) ((dpS code (l03DrawAny_c1 code a h most) (l03DrawAny_c4 code a h most) ((l03DrawAny_c3 code a h most).toNat)).1)).length=((drY code a h most).1).length - ((drY code a h most).2).1) ∧
 (List.set ((drD code a h most).1) ((l03DrawAny_c2 code a h most).toNat) ((dpS code (l03DrawAny_c1 code a h most) (l03DrawAny_c4 code a h most) ((l03DrawAny_c3 code a h most).toNat)).1)=(drY code a h most).1)))∧True)∧(((code=code)∧((((dpS code (l03DrawAny_c1 code a h most) (l03DrawAny_c4 code a h most) ((l03DrawAny_c3 code a h most).toNat)).2).1=(((drY code a h most).2).2).1)∧((((dpS code (l03DrawAny_c1 code a h most) (l03DrawAny_c4 code a h most) ((l03DrawAny_c3 code a h most).toNat)).2).2=(((drY code a h most).2).2).2)∧True)))∧True))))) (BrP (nxV code (((drD code a h most).2).1) (((drD code a h most).2).2) (24:Int) == (1:Int)) ((((bytesB code)∧(((0:Int)≤nxA (code.length) (((drD code a h most).2).1) (24:Int))∧(nxA (code.length) (((drD code a h most).2).1) (24:Int)≤(1099511627776:Int))))∧((code=code)∧True))∧((inB (l03DrawAny_c2 code a h most) (((drD code a h most).1).length))∧((((bytesB code)∧(((0:Int)≤nxA (code.length) (nxA (code.length) (((drD code a h most).2).1) (24:Int)) (l03DrawAny_c3 code a h most))∧(nxA (code.length) (nxA (code.length) (((drD code a h most).2).1) (24:Int)) (l03DrawAny_c3 code a h most)≤(1099511627776:Int))))∧((code=code)∧True))∧((InR ((l03DrawAny_c3 code a h most)+(1:Int)))∧((((bytesB code)∧(((0:Int)≤nxA (code.length) (l03DrawAny_c1 code a h most) (l03DrawAny_c3 code a h most))∧(nxA (code.length) (l03DrawAny_c1 code a h most) (l03DrawAny_c3 code a h most)≤(1099511627776:Int))))∧((code=code)∧True)) ∧
 ((inB (nxV code (l03DrawAny_c1 code a h most) (l03DrawAny_c4 code a h most) (l03DrawAny_c3 code a h most)) ((((drD code a h most).1).getD ((l03DrawAny_c2 code a h most).toNat) []).length))∧(((((0:Nat)=((drY code a h most).2).1)∧(((List.set ((drD code a h most).1) ((l03DrawAny_c2 code a h most).toNat) (List.set (((drD code a h most).1).getD ((l03DrawAny_c2 code a h most).toNat) []) ((nxV code (l03DrawAny_c1 code a h most) (l03DrawAny_c4 code a h most) (l03DrawAny_c3 code a h most)).toNat) (nxV code (nxA (code.length) (l03DrawAny_c1 code a h most) (l03DrawAny_c3 code a h most)) (nxH (l03DrawAny_c4 code a h most) (l03DrawAny_c3 code a h most)) ((l03DrawAny_c3 code a h most)+(1:Int))))).length=((drY code a h most).1).length - ((drY code a h most).2).1)∧(List.set ((drD code a h most).1) ((l03DrawAny_c2 code a h most).toNat) (List.set (((drD code a h most).1).getD ((l03DrawAny_c2 code a h most).toNat) []) ((nxV code (l03DrawAny_c1 code a h most) (l03DrawAny_c4 code a h most) (l03DrawAny_c3 code a h most)).toNat) (nxV code (nxA (code.length) (l03DrawAny_c1 code a h most) (l03DrawAny_c3 code a h most)) (nxH (l03DrawAny_c4 code a h most) (l03DrawAny_c3 code a h most)) ((l03DrawAny_c3 code a h most)+(1:Int))))=(drY code a h most).1)))∧True)∧(((code=code)∧((nxA (code.length) (nxA (code.length) (l03DrawAny_c1 code a h most) (l03DrawAny_c3 code a h most)) ((l03DrawAny_c3 code a h most)+(1:Int))=(((drY code a h most).2).2).1) ∧
 ((nxH (nxH (l03DrawAny_c4 code a h most) (l03DrawAny_c3 code a h most)) ((l03DrawAny_c3 code a h most)+(1:Int))=(((drY code a h most).2).2).2)∧True)))∧True)))))))) (BrP (nxV code (((drD code a h most).2).1) (((drD code a h most).2).2) (24:Int) == (2:Int)) ((bdsOk (((drD code a h most).1).length) (Option.some (1:Int)) Option.none)∧(((((1:Nat)=((drY code a h most).2).1)∧((((drD code a h most).1).length - (1:Int).toNat=((drY code a h most).1).length - ((drY code a h most).2).1)∧((drD code a h most).1=(drY code a h most).1)))∧True)∧(((code=code)∧((nxA (code.length) (((drD code a h most).2).1) (24:Int)=(((drY code a h most).2).2).1)∧((nxH (((drD code a h most).2).2) (24:Int)=(((drY code a h most).2).2).2)∧True)))∧True))) (((((0:Nat)=((drY code a h most).2).1)∧((((drD code a h most).1).length=((drY code a h most).1).length - ((drY code a h most).2).1)∧((drD code a h most).1=(drY code a h most).1)))∧True)∧(((code=code)∧((nxA (code.length) (((drD code a h most).2).1) (24:Int)=(((drY code a h most).2).2).1)∧((nxH (((drD code a h most).2).2) (24:Int)=(((drY code a h most).2).2).2)∧True)))∧True)))))))
theorem l03DrawAny_vc (code:List Int) (a:Int) (h:Int) (most:Int):runF Tryz.prog (gam l03DrawAny_G) noWr noAnn Tryz.f35 (bodyOf Tryz.f35) [(0,0)] [.box [.ints .u8 (code),.int .i64 (a),.int .u64 (h)],.c (.int .i64 (most))] (l03DrawAny_p code a h most)=l03DrawAny_V code a h most:=by kernel_rfl
theorem l03DrawAny_ok (code:List Int) (a:Int) (h:Int) (most:Int) (hpre:(l03DrawAny_p code a h most).pre):l03DrawAny_V code a h most:=by
 simp only [l03DrawAny_p,l03DrawAny_V,l03DrawAny_c1,l03DrawAny_c2,l03DrawAny_c3,l03DrawAny_c4,BrP_iff,u1,u2,u3,u4,u5,u6,u7,u8,u9,v1,v2,v3,v4,v5,v6,v7,v8,v9,w1,w2,w3,w4,markL_length,inB,InR,room,bdsOk] at hpre ⊢
 obtain ⟨hb,hc,h0,h1,h2,h3⟩:=hpre
 have K:okD code (drD code a h most):=drD1_ok hb (drT_ok hb (h:=h) h2 h3 h0 h1)
 have e:drY code a h most=drY1 code (drD code a h most):=rfl
 rw [e]
 generalize drD code a h most=d at K ⊢
 obtain ⟨k1,k2,k3,k4,k5⟩:=K
 have s1:=nxA_in (n:=24) k4 k5
 have s2:=nxA_in (n:=(d.1.length:Int)) s1.1 s1.2
 have s3:=nxA_in (n:=(d.1.length:Int)) s2.1 s2.2
 have v1:=nxV_in hb (nxA code.length d.2.1 24) (nxH d.2.2 24) (n:=(d.1.length:Int)) (by omega)
 have v2:=nxV_in hb (nxA code.length (nxA code.length d.2.1 24) d.1.length) (nxH (nxH d.2.2 24) d.1.length) (n:=(d.1.length:Int)) (by omega)
 have q:=(k3.2 (nxV code (nxA code.length d.2.1 24) (nxH d.2.2 24) d.1.length).toNat (by omega)).1
 refine ⟨⟨hb,hc,h0,h1,h2,h3⟩,⟨hb,k4,by omega⟩,fun z=>?_,fun z=>⟨fun z1=>?_,fun z1=>⟨fun z2=>?_,fun z2=>?_⟩⟩⟩
 ·rw [drY1,if_pos z]
  exact ⟨⟨hb,s1.1,by omega⟩,⟨hb,s2.1,s2.2,hc,by omega,by omega⟩,by omega,⟨rfl,by simp [yRow],rfl⟩,rfl,rfl⟩
 ·rw [drY1,if_neg z,if_pos z1]
  exact ⟨⟨hb,s1.1,by omega⟩,by omega,⟨hb,s2.1,by omega⟩,by omega,⟨hb,s3.1,by omega⟩,by omega,⟨rfl,by simp [yCell],rfl⟩,rfl,rfl⟩
 ·rw [drY1,if_neg z,if_neg z1,if_pos z2]
  exact ⟨⟨by omega,by omega⟩,⟨rfl,rfl,rfl⟩,rfl,rfl⟩
 ·rw [drY1,if_neg z,if_neg z1,if_neg z2]
  exact ⟨⟨rfl,rfl,rfl⟩,rfl,rfl⟩
theorem l03DrawAny_fits:Fits Tryz.prog 35 ⟨[(0,0)],l03DrawAny_ct⟩:=by
 refine ffn (Γ:=gam l03DrawAny_G) (gok_cons l01Next_fits (gok_cons l03DrawPerm_fits (gok_cons l03Draw_fits gok_nil))) Tryz.func35 fun ds p h hp=>?_
 unfold l03DrawAny_ct at h
 split at h
 ·cases h
  exact ⟨noWr,noAnn,by rw [l03DrawAny_vc];exact l03DrawAny_ok _ _ _ _  hp⟩
 ·cases h
def okY (code:List Int) (y:Dy):Prop:=1≤y.1.length∧y.1.length≤6∧(∀r∈y.1,r.length≤6)∧y.2.1≤1∧0≤y.2.2.1∧y.2.2.1≤(code.length:Int)
theorem sq_rows {n:Int} {t:List (List Int)} (h:sqB n t):∀r∈t,(r.length:Int)=n:=fun r hr=>by
 obtain ⟨i,hi,rfl⟩:=List.mem_iff_getElem.1 hr
 have:=(h.2 i hi).1
 rwa [getD_lt t [] i hi] at this
theorem drY_ok {code:List Int} (hb:bytesB code) {a h most:Int} (h1:1≤most) (h5:most≤6) (ha:0≤a) (ha2:a≤(code.length:Int)):okY code (drY code a h most):=by
 have K:okD code (drD code a h most):=drD1_ok hb (drT_ok hb (h:=h) h1 h5 ha ha2)
 have e:drY code a h most=drY1 code (drD code a h most):=rfl
 rw [e]
 generalize drD code a h most=d at K ⊢
 obtain ⟨k1,k2,k3,k4,k5⟩:=K
 have s1:=nxA_in (n:=24) k4 k5
 have s2:=nxA_in (n:=(d.1.length:Int)) s1.1 s1.2
 have s3:=nxA_in (n:=(d.1.length:Int)) s2.1 s2.2
 have s4:=nxA_in (n:=(d.1.length:Int)+1) s3.1 s3.2
 have v1:=nxV_in hb (nxA code.length d.2.1 24) (nxH d.2.2 24) (n:=(d.1.length:Int)) (by omega)
 have R:∀r∈d.1,r.length≤6:=fun r hr=>by have:=sq_rows k3 r hr;omega
 unfold drY1
 simp only
 split
 ·have D:=dp_in hb (h:=nxH (nxH d.2.2 24) d.1.length) s2.1 s2.2 d.1.length
  refine ⟨by simp [yRow];omega,by simp [yRow];omega,fun r hr=>?_,by simp [yRow],D.2.2.1,D.2.2.2⟩
  rcases List.mem_or_eq_of_mem_set (show r∈List.set _ _ _ from hr) with hr | rfl
  ·exact R r hr
  ·show (dpS code _ _ d.1.length).1.length≤6
   rw [D.1];omega
 ·split
  ·refine ⟨by simp [yCell];omega,by simp [yCell];omega,fun r hr=>?_,by simp [yCell],s4.1,s4.2⟩
   rcases List.mem_or_eq_of_mem_set (show r∈List.set _ _ _ from hr) with hr | rfl
   ·exact R r hr
   ·rw [List.length_set]
    have:=(k3.2 (nxV code (nxA code.length d.2.1 24) (nxH d.2.2 24) d.1.length).toNat (by omega)).1
    omega
  ·split
   ·exact ⟨k1,k2,R,Nat.le_refl _,s1.1,s1.2⟩
   ·exact ⟨k1,k2,R,Nat.zero_le _,s1.1,s1.2⟩
def yT (y:Dy):List (List Int):=(y.1.drop y.2.1).take (y.1.length - y.2.1)
theorem yT_length (y:Dy):(yT y).length=y.1.length - y.2.1:=by simp [yT]
end Go.Sx
end
