/- Draw DrawT GrowP DrawR DrawY -/
import Derived.Test.YtjkbnanffneogaaLists
import Derived.Test.YtjkbnanffneogaaTable
import Derived.Test.YtjkbnanffneogaaMat
import Derived.Test.YtjkbnanffneogaaCmp
section
open Go Go.Proofs
namespace Go.Sx
set_option linter.unusedSimpArgs false
set_option linter.unusedVariables false
def bytesB (code:List Int):Prop:=∀x∈code,0≤x∧x≤255
theorem bytes_get {code:List Int} (h:bytesB code) (i:Nat):0≤code.getD i 0∧code.getD i 0≤255:=by
  by_cases hi:i<code.length
  · rw [getD_lt code 0 i hi];exact h _ (List.getElem_mem hi)
  · rw [List.getD_eq_getElem?_getD,List.getElem?_eq_none (by omega)];decide
def stepH (h:Int):Int:=IntKind.wrap .u64 (IntKind.wrap .u64 (h * 6364136223846793005)+1442695040888963407)
def nxH (h n:Int):Int:=if n<1 then h else stepH h
def nxA (L:Nat) (a n:Int):Int:=if n<1 then a else if a<(L:Int) then a+1 else a
def nxR (h:Int):Int:=(((stepH h / 2 ^ 33).toNat &&& 16777215:Nat):Int)
def nxV (code:List Int) (a h n:Int):Int:=if n<1 then 0 else if a<(code.length:Int) then (nxR h+code.getD a.toNat 0).tmod n else (nxR h).tmod n
theorem wrapU_in (x:Int):0≤IntKind.wrap .u64 x∧IntKind.wrap .u64 x≤18446744073709551615:=by
  have:IntKind.wrap .u64 x=x % 18446744073709551616:=rfl
  omega
theorem tmod_in' {a m:Int} (h:0≤a) (hm:1≤m):0≤a.tmod m∧a.tmod m≤m - 1:=by
  rw [Int.tmod_eq_emod_of_nonneg h]
  have h1:=Int.emod_nonneg a (show m≠0 by omega)
  have h2:=Int.emod_lt_of_pos a (show 0<m by omega)
  omega
theorem nxR_in (h:Int):0≤nxR h∧nxR h≤16777215:=by
  have:((stepH h / 2 ^ 33).toNat &&& 16777215)≤16777215:=Nat.and_le_right
  unfold nxR
  omega
def l01Next_p (code:List Int) (a:Int) (h:Int) (n:Int):Post:=⟨bytesB code∧0≤a∧a≤1099511627776,.c (.int .i64 (nxV code a h n)),[.bx [.ints .u8 (code),.int .i64 (nxA code.length a n),.int .u64 (nxH h n)]]⟩
def l01Next_ct:List AD→Option Post
  | [.box [.ints .u8 (code),.int .i64 (a),.int .u64 (h)],.c (.int .i64 (n))]=>some (l01Next_p code a h n)
  | _=>none
def l01Next_G:List (Nat×Ctr):=[]
def l01Next_c1 (h:Int):=(↑((IntKind.wrap IntKind.u64 (IntKind.wrap IntKind.u64 (h * (6364136223846793005:Int))+(1442695040888963407:Int)) / (2:Int) ^ (33:Int).toNat).toNat &&& (16777215:Int).toNat):Int)
def l01Next_V (code:List Int) (a:Int) (h:Int) (n:Int):Prop :=
 (BrP (decide (n<(1:Int))) (((0:Int)=nxV code a h n)∧(((code=code)∧((a=nxA (code.length) a n)∧((h=nxH h n)∧True)))∧True)) ((((0:Int)≤(33:Int))∧((33:Int)≤(62:Int)))∧(((((0:Int)≤IntKind.wrap IntKind.u64 (IntKind.wrap IntKind.u64 (h * (6364136223846793005:Int))+(1442695040888963407:Int)) / (2:Int) ^ (33:Int).toNat)∧(IntKind.wrap IntKind.u64 (IntKind.wrap IntKind.u64 (h * (6364136223846793005:Int))+(1442695040888963407:Int)) / (2:Int) ^ (33:Int).toNat≤(18446744073709551615:Int)))∧(((0:Int)≤(16777215:Int))∧((16777215:Int)≤(18446744073709551615:Int))))∧((InR (l01Next_c1 h))∧(BrP (decide (a<(↑(code.length):Int))) ((inB a (code.length))∧((InR (code.getD (a.toNat) (0:Int)))∧((InR ((l01Next_c1 h)+code.getD (a.toNat) (0:Int)))∧((InR (a+(1:Int)))∧((n≠(0:Int))∧((Int.tmod ((l01Next_c1 h)+code.getD (a.toNat) (0:Int)) n=nxV code a h n)∧(((code=code)∧((a+(1:Int)=nxA (code.length) a n)∧((IntKind.wrap IntKind.u64 (IntKind.wrap IntKind.u64 (h * (6364136223846793005:Int))+(1442695040888963407:Int))=nxH h n)∧True)))∧True))))))) ((n≠(0:Int))∧((Int.tmod (l01Next_c1 h) n=nxV code a h n)∧(((code=code)∧((a=nxA (code.length) a n)∧((IntKind.wrap IntKind.u64 (IntKind.wrap IntKind.u64 (h * (6364136223846793005:Int))+(1442695040888963407:Int))=nxH h n)∧True)))∧True))))))))
theorem l01Next_vc (code:List Int) (a:Int) (h:Int) (n:Int):runF Try.prog (gam l01Next_G) noWr noAnn Try.f57 (bodyOf Try.f57) [(0,0)] [.box [.ints .u8 (code),.int .i64 (a),.int .u64 (h)],.c (.int .i64 (n))] (l01Next_p code a h n)=l01Next_V code a h n:=by kernel_rfl
theorem l01Next_ok (code:List Int) (a:Int) (h:Int) (n:Int) (hpre:(l01Next_p code a h n).pre):l01Next_V code a h n:=by
  simp only [l01Next_p,l01Next_V,l01Next_c1,BrP_iff,u1,u2,u3,u4,u5,u6,u7,u8,u9,v1,v2,v3,v4,v5,v6,v7,v8,v9,w1,w2,w3,w4,markL_length,inB,InR,room,bdsOk] at hpre ⊢
  obtain ⟨hb,h0,h1⟩:=hpre
  have hr:=nxR_in h
  have hg:=bytes_get hb a.toNat
  have hs:0≤stepH h∧stepH h≤18446744073709551615:=wrapU_in _
  refine ⟨fun hn=>⟨(if_pos hn).symm,(if_pos hn).symm,(if_pos hn).symm⟩,fun hn=>⟨?_,?_⟩⟩
  · exact ⟨by decide,by decide⟩
  · have e2:IntKind.u64.wrap (IntKind.u64.wrap (h * 6364136223846793005)+1442695040888963407)=stepH h:=rfl
    have e:(((stepH h / 2 ^ Int.toNat 33).toNat &&& Int.toNat 16777215:Nat):Int)=nxR h:=rfl
    rw [e2,e,show stepH h / 2 ^ Int.toNat 33=stepH h / 8589934592 from rfl]
    refine ⟨by omega,by omega,fun hl=>⟨by omega,by omega,by omega,by omega,by omega,?_,?_,(if_neg hn).symm⟩,fun hl=>⟨by omega,?_,?_,(if_neg hn).symm⟩⟩
    · rw [nxV,if_neg hn,if_pos hl]
    · rw [nxA,if_neg hn,if_pos hl]
    · rw [nxV,if_neg hn,if_neg hl]
    · rw [nxA,if_neg hn,if_neg hl]
theorem l01Next_fits:Fits Try.prog 57 ⟨[(0,0)],l01Next_ct⟩:=by
  refine ffn (Γ:=gam l01Next_G) gok_nil Try.func57 fun ds p h hp=>?_
  unfold l01Next_ct at h
  split at h
  · cases h
    exact ⟨noWr,noAnn,by rw [l01Next_vc];exact l01Next_ok _ _ _ _  hp⟩
  · cases h
def frH (code:List Int):Nat→Int
  | 0=>IntKind.wrap .u64 (6553+IntKind.wrap .u64 (code.length:Int))
  | i+1=>IntKind.wrap .u64 (IntKind.wrap .u64 (IntKind.wrap .u64 (frH code i * 1099511628211)+IntKind.wrap .u64 (code.getD i 0))+11)
def l01From_p (code:List Int):Post:=⟨bytesB code∧code.length≤4096,.c (.bx [.ints .u8 (code),.int .i64 (0),.int .u64 (frH code code.length)]),[]⟩
def l01From_ct:List AD→Option Post
  | [.c (.ints .u8 (code))]=>some (l01From_p code)
  | _=>none
def l01From_ann (code:List Int):Nat→Option Ann
  | 0=>some (Ann.mk ((Nat)) (fun i=>⟨[(0,.c (.ro (.ints .u8 (code)))),(3,.c (.ptr 10 0)),(4,.c (.int .i64 ((i:Int))))],[(10,some (.box [.ro (.ints .u8 (code)),.int .i64 (0),.int .u64 (frH code i)]))]⟩) (fun i=>i≤code.length) (fun i=>code.length - i) (fun _=>noAnn))
  | _=>none
def l01From_G:List (Nat×Ctr):=[]
def l01From_V (code:List Int):Prop :=
 ((∃x0:Nat,((x0≤code.length)∧((code=code)∧(((0:Int)=(↑x0:Int))∧((code=code)∧(((0:Int)=(0:Int))∧(IntKind.wrap IntKind.u64 ((6553:Int)+IntKind.wrap IntKind.u64 (↑(code.length):Int))=frH code x0)))))))∧(∀x1:Nat,((x1≤code.length)→(BrP (decide ((↑x1:Int)<(↑(code.length):Int))) (BrP (decide ((↑x1:Int)<(4096:Int))) ((inB (↑x1:Int) (code.length))∧((InR ((↑x1:Int)+(1:Int)))∧(∃x2:Nat,((x2≤code.length)∧((code.length - x2<code.length - x1)∧((code=code)∧(((↑x1:Int)+(1:Int)=(↑x2:Int))∧((code=code)∧(((0:Int)=(0:Int))∧(IntKind.wrap IntKind.u64 (IntKind.wrap IntKind.u64 (IntKind.wrap IntKind.u64 (frH code x1 * (1099511628211:Int))+IntKind.wrap IntKind.u64 (code.getD ((↑x1:Int).toNat) (0:Int)))+(11:Int))=frH code x2)))))))))) ((([FC.ints IntKind.u8 code,FC.int IntKind.i64 (0:Int),FC.int IntKind.u64 (frH code (code.length))]≠[])∧((code=code)∧(((0:Int)=(0:Int))∧((frH code x1=frH code (code.length))∧True))))∧True)) ((([FC.ints IntKind.u8 code,FC.int IntKind.i64 (0:Int),FC.int IntKind.u64 (frH code (code.length))]≠[])∧((code=code)∧(((0:Int)=(0:Int))∧((frH code x1=frH code (code.length))∧True))))∧True)))))
set_option maxRecDepth 100000 in
theorem l01From_vc (code:List Int):runF Try.prog (gam l01From_G) noWr (l01From_ann code) Try.f51 (bodyOf Try.f51) [] [.c (.ints .u8 (code))] (l01From_p code)=l01From_V code:=by kernel_rfl
theorem l01From_ok (code:List Int) (hpre:(l01From_p code).pre):l01From_V code:=by
  simp only [l01From_p,l01From_V,BrP_iff,u1,u2,u3,u4,u5,u6,u7,u8,u9,v1,v2,v3,v4,v5,v6,v7,v8,v9,w1,w2,w3,w4,markL_length,inB,InR,room,bdsOk] at hpre ⊢
  obtain ⟨hb,h0⟩:=hpre
  refine ⟨⟨0,by omega,rfl,rfl⟩,fun i hi=>⟨fun h=>⟨fun _=>⟨by omega,by omega,i+1,by omega,by omega,by omega,rfl⟩,fun h2=>by omega⟩,fun h=>⟨by simp,by rw [show i=code.length by omega]⟩⟩⟩
theorem l01From_fits:Fits Try.prog 51 ⟨[],l01From_ct⟩:=by
  refine ffn (Γ:=gam l01From_G) gok_nil Try.func51 fun ds p h hp=>?_
  unfold l01From_ct at h
  split at h
  · cases h
    exact ⟨noWr,l01From_ann _ ,by rw [l01From_vc];exact l01From_ok _  hp⟩
  · cases h
theorem nxV_in {code:List Int} (hb:bytesB code) (a h:Int) {n:Int} (hn:1≤n):0≤nxV code a h n∧nxV code a h n≤n - 1:=by
  have hr:=nxR_in h
  have hg:=bytes_get hb a.toNat
  rw [nxV,if_neg (by omega)]
  split
  · exact tmod_in' (by omega) hn
  · exact tmod_in' (by omega) hn
theorem nxA_in {L:Nat} {a n:Int} (h:0≤a) (hl:a≤(L:Int)):0≤nxA L a n∧nxA L a n≤(L:Int):=by
  unfold nxA
  split
  · omega
  · split <;> omega
def l01Pick_p (code:List Int) (a:Int) (h:Int) (l:List Int):Post:=⟨bytesB code∧0≤a∧a≤1099511627776∧1≤l.length∧l.length≤100,.c (.int .i64 (l.getD (nxV code a h (l.length:Int)).toNat 0)),[.bx [.ints .u8 (code),.int .i64 (nxA code.length a (l.length:Int)),.int .u64 (nxH h (l.length:Int))]]⟩
def l01Pick_ct:List AD→Option Post
  | [.box [.ints .u8 (code),.int .i64 (a),.int .u64 (h)],.c (.ints .i64 (l))]=>some (l01Pick_p code a h l)
  | _=>none
def l01Pick_G:List (Nat×Ctr):=[(57,⟨[(0,0)],l01Next_ct⟩)]
def l01Pick_V (code:List Int) (a:Int) (h:Int) (l:List Int):Prop :=
 ((((bytesB code)∧(((0:Int)≤a)∧(a≤(1099511627776:Int))))∧((code=code)∧True))∧((inB (nxV code a h (↑(l.length):Int)) (l.length))∧((l.getD ((nxV code a h (↑(l.length):Int)).toNat) (0:Int)=l.getD ((nxV code a h (↑(l.length):Int)).toNat) (0:Int))∧(((code=code)∧((nxA (code.length) a (↑(l.length):Int)=nxA (code.length) a (↑(l.length):Int))∧((nxH h (↑(l.length):Int)=nxH h (↑(l.length):Int))∧True)))∧True))))
theorem l01Pick_vc (code:List Int) (a:Int) (h:Int) (l:List Int):runF Try.prog (gam l01Pick_G) noWr noAnn Try.f88 (bodyOf Try.f88) [(0,0)] [.box [.ints .u8 (code),.int .i64 (a),.int .u64 (h)],.c (.ints .i64 (l))] (l01Pick_p code a h l)=l01Pick_V code a h l:=by kernel_rfl
theorem l01Pick_ok (code:List Int) (a:Int) (h:Int) (l:List Int) (hpre:(l01Pick_p code a h l).pre):l01Pick_V code a h l:=by
  simp only [l01Pick_p,l01Pick_V,BrP_iff,u1,u2,u3,u4,u5,u6,u7,u8,u9,v1,v2,v3,v4,v5,v6,v7,v8,v9,w1,w2,w3,w4,markL_length,inB,InR,room,bdsOk] at hpre ⊢
  obtain ⟨hb,h0,h1,h2,h3⟩:=hpre
  have:=nxV_in hb a h (n:=(l.length:Int)) (by omega)
  exact ⟨⟨hb,h0,h1⟩,by omega,by omega⟩
theorem l01Pick_fits:Fits Try.prog 88 ⟨[(0,0)],l01Pick_ct⟩:=by
  refine ffn (Γ:=gam l01Pick_G) (gok_cons l01Next_fits gok_nil) Try.func88 fun ds p h hp=>?_
  unfold l01Pick_ct at h
  split at h
  · cases h
    exact ⟨noWr,noAnn,by rw [l01Pick_vc];exact l01Pick_ok _ _ _ _  hp⟩
  · cases h
end Go.Sx
end
section
open Go Go.Proofs
namespace Go.Sx
set_option linter.unusedSimpArgs false
set_option linter.unusedVariables false
def sqB (n:Int) (t:List (List Int)):Prop:=(t.length:Int)=n∧∀i,i<t.length→((t.getD i []).length:Int)=n∧∀j,j<t.length→0≤(t.getD i []).getD j 0∧(t.getD i []).getD j 0≤n - 1
theorem mulN_in {a:Int} {x:Nat} (h0:0≤a) (h1:a≤1000) (hx:x≤1000):0≤a * (x:Int)∧a * (x:Int)≤1000000:=by
  constructor
  · exact Int.mul_nonneg h0 (by omega)
  · exact Int.mul_le_mul h1 (show (x:Int)≤1000 by omega) (by omega) (by omega)
theorem sq_tabR {n:Int} (f:Nat→Nat→Int) (h0:0≤n) (h:∀x y:Nat,(x:Int)<n→(y:Int)<n→0≤f x y∧f x y≤n - 1):sqB n (tabR n.toNat f):=by
  refine ⟨by rw [tabR_length];omega,fun i hi=>?_⟩
  rw [tabR_length] at hi
  rw [tabR_getD _ _ _ hi,tab_length,tabR_length]
  exact ⟨by omega,fun j hj=>by rw [tab_getD _ _ _ hj];exact h i j (by omega) (by omega)⟩
def imC (t:List (List Int)) (p:List Int) (x:Nat):Nat→List (List Int)→List (List Int)
  | 0,o=>o
  | y+1,o=>let o':=imC t p x y o
    o'.set (p.getD x 0).toNat ((o'.getD (p.getD x 0).toNat []).set (p.getD y 0).toNat (p.getD ((t.getD x []).getD y 0).toNat 0))
theorem sq_set {n:Int} {o:List (List Int)} (h:sqB n o) {k j:Nat} (hk:(k:Int)<n) (hj:(j:Int)<n) {v:Int} (h0:0≤v) (h1:v≤n - 1):sqB n (o.set k ((o.getD k []).set j v)):=by
  refine ⟨by rw [List.length_set];exact h.1,fun i hi=>?_⟩
  rw [List.length_set] at hi
  have e:=h.2 i hi
  by_cases hik:k=i
  · subst hik
    have:(o.set k ((o.getD k []).set j v)).getD k []=(o.getD k []).set j v:=by
      rw [List.getD_eq_getElem?_getD,List.getElem?_set_self hi];rfl
    rw [this,List.length_set,List.length_set]
    refine ⟨e.1,fun x hx=>?_⟩
    by_cases hxj:j=x
    · subst hxj
      have:((o.getD k []).set j v).getD j 0=v:=by
        rw [List.getD_eq_getElem?_getD,List.getElem?_set_self (by omega)];rfl
      rw [this];exact ⟨h0,h1⟩
    · have:((o.getD k []).set j v).getD x 0=(o.getD k []).getD x 0:=by
        rw [List.getD_eq_getElem?_getD,List.getElem?_set_ne hxj,←List.getD_eq_getElem?_getD]
      rw [this];exact e.2 x hx
  · have:(o.set k ((o.getD k []).set j v)).getD i []=o.getD i []:=by
      rw [List.getD_eq_getElem?_getD,List.getElem?_set_ne hik,←List.getD_eq_getElem?_getD]
    rw [this,List.length_set];exact e
section
variable {t:List (List Int)} {p:List Int} (ht:sqB (t.length:Int) t) (hp:p.length=t.length) (hq:∀i,i<p.length→0≤p.getD i 0∧p.getD i 0≤(t.length:Int) - 1)
include ht hp hq
theorem imC_sq (x:Nat) (hx:x<t.length):∀(y:Nat),y≤t.length→∀o,sqB (t.length:Int) o→sqB (t.length:Int) (imC t p x y o)
  | 0,_,o,h=>h
  | y+1,hy,o,h=>by
    have e:=imC_sq x hx y (by omega) o h
    have q1:=hq x (by omega)
    have q2:=hq y (by omega)
    have t1:=(ht.2 x hx).2 y (by omega)
    have q3:=hq ((t.getD x []).getD y 0).toNat (by omega)
    exact sq_set e (by omega) (by omega) q3.1 q3.2
end
end Go.Sx
end
section
open Go Go.Proofs
namespace Go.Sx
set_option linter.unusedSimpArgs false
set_option linter.unusedVariables false
def bkN (p:List Int):Nat→List Int
  | 0=>List.replicate p.length 0
  | i+1=>(bkN p i).set (p.getD i 0).toNat (i:Int)
def bkL (p:List Int):List Int:=bkN p p.length
def thL (p q:List Int):List Int:=p.map fun x=>q.getD x.toNat 0
theorem bkN_length (p:List Int):∀i,(bkN p i).length=p.length
  | 0=>by simp [bkN]
  | i+1=>by rw [bkN,List.length_set,bkN_length p i]
def inQ (n:Nat) (p:List Int):Prop:=∀i,i<p.length→0≤p.getD i 0∧p.getD i 0<(n:Int)
def l01BackG_p (p:List Int):Post:=⟨room p.length∧inQ p.length p,.c (.ints 2 .i64 (bkL p)),[]⟩
def l01BackG_ct:List AD→Option Post
  | [.c (.ints .i64 (p))]=>some (l01BackG_p p)
  | _=>none
def l01BackG_ann (p:List Int):Nat→Option Ann
  | 0=>some (Ann.mk ((Nat)) (fun i=>⟨[(0,.c (.ro (.ints .i64 (p)))),(3,.c (.own (10))),(4,.c (.int .i64 ((i:Int))))],[(10,some (.ints 2 .i64 (bkN p i)))]⟩) (fun i=>i≤p.length) (fun i=>p.length - i) (fun _=>noAnn))
  | _=>none
def l01BackG_G:List (Nat×Ctr):=[]
def l01BackG_V (p:List Int):Prop :=
 ((((0:Int)≤(↑(p.length):Int))∧(((↑(p.length):Int)≤(↑(p.length):Int))∧(room ((↑(p.length):Int).toNat))))∧((∃x0:Nat,((x0≤p.length)∧((p=p)∧(((0:Int)=(↑x0:Int))∧(List.replicate ((↑(p.length):Int).toNat) (0:Int)=bkN p x0)))))∧(∀x1:Nat,((x1≤p.length)→(BrP (decide ((↑x1:Int)<(↑(p.length):Int))) ((inB (↑x1:Int) (p.length))∧((inB (p.getD ((↑x1:Int).toNat) (0:Int)) ((bkN p x1).length))∧((InR ((↑x1:Int)+(1:Int)))∧(∃x2:Nat,((x2≤p.length)∧((p.length - x2<p.length - x1)∧((p=p)∧(((↑x1:Int)+(1:Int)=(↑x2:Int))∧(List.set (bkN p x1) ((p.getD ((↑x1:Int).toNat) (0:Int)).toNat) (↑x1:Int)=bkN p x2))))))))) ((bkN p x1=bkL p)∧True))))))
theorem l01BackG_vc (p:List Int):runF Try.prog (gam l01BackG_G) noWr (l01BackG_ann p) Try.f111 (bodyOf Try.f111) [] [.c (.ints .i64 (p))] (l01BackG_p p)=l01BackG_V p:=by kernel_rfl
theorem l01BackG_ok (p:List Int) (hpre:(l01BackG_p p).pre):l01BackG_V p:=by
  simp only [l01BackG_p,l01BackG_V,BrP_iff,u1,u2,u3,u4,u5,u6,u7,u8,u9,v1,v2,v3,v4,v5,v6,v7,v8,v9,w1,w2,w3,w4,markL_length,inB,InR,room,bdsOk] at hpre ⊢
  obtain ⟨h1,h2⟩:=hpre
  refine ⟨by omega,⟨0,by omega,rfl,rfl⟩,fun i hi=>⟨fun h=>?_,fun h=>?_⟩⟩
  · have hr:=h2 i (by omega)
    rw [bkN_length]
    exact ⟨by omega,by omega,by omega,i+1,by omega,by omega,by omega,rfl⟩
  · rw [show i=p.length by omega];rfl
theorem l01BackG_fits:Fits Try.prog 111 ⟨[],l01BackG_ct⟩:=by
  refine ffn (Γ:=gam l01BackG_G) gok_nil Try.func111 fun ds p h hp=>?_
  unfold l01BackG_ct at h
  split at h
  · cases h
    exact ⟨noWr,l01BackG_ann _ ,by rw [l01BackG_vc];exact l01BackG_ok _  hp⟩
  · cases h
def l01ThenG_p (p:List Int) (q:List Int):Post:=⟨room p.length∧inQ q.length p,.c (.ints 2 .i64 (thL p q)),[]⟩
def l01ThenG_ct:List AD→Option Post
  | [.c (.ints .i64 (p)),.c (.ints .i64 (q))]=>some (l01ThenG_p p q)
  | _=>none
def l01ThenG_ann (p:List Int) (q:List Int):Nat→Option Ann
  | 0=>some (Ann.mk ((Nat)) (fun i=>⟨[(0,.c (.ro (.ints .i64 (p)))),(1,.c (.ro (.ints .i64 (q)))),(5,.c (.own (10))),(6,.c (.int .i64 ((i:Int))))],[(10,some (.ints 2 .i64 (thL (p.take i) q)))]⟩) (fun i=>i≤p.length) (fun i=>p.length - i) (fun _=>noAnn))
  | _=>none
def l01ThenG_G:List (Nat×Ctr):=[]
def l01ThenG_V (p:List Int) (q:List Int):Prop :=
 ((∃x0:Nat,((x0≤p.length)∧((p=p)∧((q=q)∧(((0:Int)=(↑x0:Int))∧([]=thL (List.take x0 p) q))))))∧(∀x1:Nat,((x1≤p.length)→(BrP (decide ((↑x1:Int)<(↑(p.length):Int))) ((inB (↑x1:Int) (p.length))∧((inB (p.getD ((↑x1:Int).toNat) (0:Int)) (q.length))∧((room ((thL (List.take x1 p) q).length+[q.getD ((p.getD ((↑x1:Int).toNat) (0:Int)).toNat) (0:Int)].length))∧((InR ((↑x1:Int)+(1:Int)))∧(∃x2:Nat,((x2≤p.length)∧((p.length - x2<p.length - x1)∧((p=p)∧((q=q)∧(((↑x1:Int)+(1:Int)=(↑x2:Int))∧(thL (List.take x1 p) q++[q.getD ((p.getD ((↑x1:Int).toNat) (0:Int)).toNat) (0:Int)]=thL (List.take x2 p) q))))))))))) ((thL (List.take x1 p) q=thL p q)∧True)))))
theorem l01ThenG_vc (p:List Int) (q:List Int):runF Try.prog (gam l01ThenG_G) noWr (l01ThenG_ann p q) Try.f120 (bodyOf Try.f120) [] [.c (.ints .i64 (p)),.c (.ints .i64 (q))] (l01ThenG_p p q)=l01ThenG_V p q:=by kernel_rfl
theorem l01ThenG_ok (p:List Int) (q:List Int) (hpre:(l01ThenG_p p q).pre):l01ThenG_V p q:=by
  simp only [l01ThenG_p,l01ThenG_V,BrP_iff,u1,u2,u3,u4,u5,u6,u7,u8,u9,v1,v2,v3,v4,v5,v6,v7,v8,v9,w1,w2,w3,w4,markL_length,inB,InR,room,bdsOk] at hpre ⊢
  obtain ⟨h1,h2⟩:=hpre
  refine ⟨⟨0,by omega,rfl,rfl⟩,fun i hi=>⟨fun h=>?_,fun h=>?_⟩⟩
  · have hr:=h2 i (by omega)
    have hl:(thL (p.take i) q).length=i:=by rw [thL,List.length_map,List.length_take];omega
    refine ⟨by omega,by omega,by omega,by omega,i+1,by omega,by omega,by omega,?_⟩
    rw [←take_snoc p 0 i (by omega),thL,thL,List.map_append];rfl
  · rw [List.take_of_length_le (by omega)]
theorem l01ThenG_fits:Fits Try.prog 120 ⟨[],l01ThenG_ct⟩:=by
  refine ffn (Γ:=gam l01ThenG_G) gok_nil Try.func120 fun ds p h hp=>?_
  unfold l01ThenG_ct at h
  split at h
  · cases h
    exact ⟨noWr,l01ThenG_ann _ _ ,by rw [l01ThenG_vc];exact l01ThenG_ok _ _  hp⟩
  · cases h
end Go.Sx
end
section
open Go Go.Proofs
namespace Go.Sx
set_option linter.unusedSimpArgs false
set_option linter.unusedVariables false
abbrev Dr:=List (List Int)×Int×Int
def fIx (z:List Int):List (List Int)→Nat
  | []=>0
  | a::r=>if a=z then 0 else fIx z r+1
def cjZ (A:List (List Int)) (x y:Nat):List Int:=thL (thL (bkL (A.getD x [])) (A.getD y [])) (A.getD x [])
structure CjOk (A:List (List Int)):Prop where
  le:A.length≤6
  ge:1≤A.length
  len:∀x,x<A.length→(A.getD x []).length=3
  el:∀x,x<A.length→inQ 3 (A.getD x [])
  at_:∀x y,x<A.length→y<A.length→fIx (cjZ A x y) A<A.length
  th:∀x y,x<A.length→y<A.length→(thL (bkL (A.getD x [])) (A.getD y [])).length=3∧inQ 3 (thL (bkL (A.getD x [])) (A.getD y []))
  bk:∀x,x<A.length→(bkL (A.getD x [])).length=3∧inQ 3 (bkL (A.getD x []))
  z:∀x y,x<A.length→y<A.length→(cjZ A x y).length=3
end Go.Sx
end
section
open Go Go.Proofs
namespace Go.Sx
set_option linter.unusedSimpArgs false
set_option linter.unusedVariables false
def okD (code:List Int) (d:Dr):Prop:=1≤d.1.length∧d.1.length≤6∧sqB (d.1.length:Int) d.1∧0≤d.2.1∧d.2.1≤(code.length:Int)
theorem okD_of {code:List Int} {n:Int} {t:List (List Int)} {s:Int×Int} (h:sqB n t) (h1:1≤n) (h2:n≤6) (h3:0≤s.1∧s.1≤(code.length:Int)):okD code (t,s):=by
  have e:=h.1
  refine ⟨?_,?_,?_,h3.1,h3.2⟩
  · show 1≤t.length;omega
  · show t.length≤6;omega
  · show sqB (t.length:Int) t;rw [e];exact h
theorem sq_rep {n:Int} {p:List Int} (h0:0≤n) (hp:(p.length:Int)=n) (hq:∀x∈p,0≤x∧x≤n - 1):sqB n (List.replicate n.toNat p):=by
  refine ⟨by simp;omega,fun i hi=>?_⟩
  rw [List.length_replicate] at hi
  have:(List.replicate n.toNat p).getD i []=p:=by simp [List.getD_eq_getElem?_getD,List.getElem?_replicate,hi]
  rw [this]
  refine ⟨hp,fun j hj=>?_⟩
  rw [List.length_replicate] at hj
  have hj:j<p.length:=by omega
  have b4:=hq _ (List.getElem_mem hj)
  rwa [←getD_lt p 0 _ hj] at b4
theorem sq_room {n:Int} {t:List (List Int)} (h:sqB n t) (h1:n≤144):roomR t:=by
  have e:=h.1
  refine ⟨by omega,fun r hr=>?_⟩
  obtain ⟨i,hi,rfl⟩:=List.mem_iff_getElem.1 hr
  have:=(h.2 i hi).1
  rw [getD_lt t [] i hi] at this
  omega
abbrev Dy:=List (List Int)×Nat×Int×Int
theorem sq_rows {n:Int} {t:List (List Int)} (h:sqB n t):∀r∈t,(r.length:Int)=n:=fun r hr=>by
  obtain ⟨i,hi,rfl⟩:=List.mem_iff_getElem.1 hr
  have:=(h.2 i hi).1
  rwa [getD_lt t [] i hi] at this
def yT (y:Dy):List (List Int):=(y.1.drop y.2.1).take (y.1.length - y.2.1)
theorem yT_length (y:Dy):(yT y).length=y.1.length - y.2.1:=by simp [yT]
end Go.Sx
end
