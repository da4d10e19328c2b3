/- Lvl -/
import Derived.Test.YtcdmndagoafcgaaGrp
import Derived.Test.YtcdmndagoafcgaaBrcC
open Go Go.Proofs
namespace Go.Sx
set_option linter.unusedSimpArgs false
set_option linter.unusedVariables false
def setOk (t:List (List Int)) (s:Int):Prop:=tabB t=true∧0≤s∧s.toNat<2 ^ t.length
theorem pow_12 {n:Nat} (h:n≤12):2 ^ n≤4096:=Nat.pow_le_pow_right (n:=2) (by omega) h
theorem setOk_of {t:List (List Int)} {s:Int} (h:setOk t s):0≤s∧s<4096:=by
 have:=pow_12 (tabB_of h.1).2.1
 have:=h.2.2
 have:=h.2.1
 omega
def mn (a b:Int):Int:=if b<a then b else a
def lsN (t:List (List Int)) (s:Int) (x:Nat):Nat→Int
 | 0=>(x:Int)
 | k+1=>if bitB s k=true then mn (lsN t s x k) (en t x k) else lsN t s x k
def lsL (t:List (List Int)) (s:Int):List Int:=tab t.length fun x=>lsN t s x t.length
def nbS (l:List Int):Nat→List Int
 | 0=>[]
 | i+1=>if l.getD i 0∈nbS l i then nbS l i else nbS l i++[l.getD i 0]
def nbL (l:List Int):List Int:=tab l.length fun i=>idxL (l.getD i 0) (nbS l (i+1)) 0
def foN (cl:List Int):Nat→List Int
 | 0=>[]
 | i+1=>if cl.getD i 0=((foN cl i).length:Int) then foN cl i++[(i:Int)] else foN cl i
def csL (t:List (List Int)) (s:Int):List Int:=nbL (lsL t s)
def quo (t:List (List Int)) (cl:List Int):List (List Int) :=
 tabR (foN cl cl.length).length fun x y=>cl.getD (en t ((foN cl cl.length).getD x 0).toNat ((foN cl cl.length).getD y 0).toNat).toNat 0
set_option linter.unusedSectionVars false
structure BrN (n:Nat) (A C:Nat→Nat→Nat):Prop where
 pos:0<n
 ain:∀x y,x<n→y<n→A x y<n
 cin:∀x y,x<n→y<n→C x y<n
 aas:∀x y z,x<n→y<n→z<n→A (A x y) z=A x (A y z)
 cas:∀x y z,x<n→y<n→z<n→C (C x y) z=C x (C y z)
 a0l:∀x,x<n→A 0 x=x
 a0r:∀x,x<n→A x 0=x
 c0l:∀x,x<n→C 0 x=x
 c0r:∀x,x<n→C x 0=x
 ainv:∀x,x<n→∃y,y<n∧A x y=0
 cinv:∀x,x<n→∃y,y<n∧C x y=0
 brc:∀x y z i,x<n→y<n→z<n→i<n→A x i=0→C x (A y z)=A (A (C x y) i) (C x z)
def SocP (n:Nat) (A C:Nat→Nat→Nat) (t:Nat):Prop:=t<n∧∀z,z<n→C t z=A t z∧A t z=A z t
section
variable {n:Nat} {A C:Nat→Nat→Nat} (B:BrN n A C)
include B
end
theorem BrN.congr {n:Nat} {A C A' C':Nat→Nat→Nat} (B:BrN n A C) (ea:∀x y,x<n→y<n→A' x y=A x y) (ec:∀x y,x<n→y<n→C' x y=C x y):BrN n A' C':=by
 refine ⟨B.pos,fun x y hx hy=>by rw [ea x y hx hy];exact B.ain x y hx hy,fun x y hx hy=>by rw [ec x y hx hy];exact B.cin x y hx hy,fun x y z hx hy hz=>?_,fun x y z hx hy hz=>?_,fun x hx=>?_,fun x hx=>?_,fun x hx=>?_,fun x hx=>?_,fun x hx=>?_,fun x hx=>?_,fun x y z i hx hy hz hi h=>?_⟩
 ·rw [ea x y hx hy,ea y z hy hz,ea _ z (B.ain x y hx hy) hz,ea x _ hx (B.ain y z hy hz),B.aas x y z hx hy hz]
 ·rw [ec x y hx hy,ec y z hy hz,ec _ z (B.cin x y hx hy) hz,ec x _ hx (B.cin y z hy hz),B.cas x y z hx hy hz]
 ·rw [ea 0 x B.pos hx,B.a0l x hx]
 ·rw [ea x 0 hx B.pos,B.a0r x hx]
 ·rw [ec 0 x B.pos hx,B.c0l x hx]
 ·rw [ec x 0 hx B.pos,B.c0r x hx]
 ·obtain ⟨y,hy,h⟩:=B.ainv x hx
  exact ⟨y,hy,by rw [ea x y hx hy,h]⟩
 ·obtain ⟨y,hy,h⟩:=B.cinv x hx
  exact ⟨y,hy,by rw [ec x y hx hy,h]⟩
 ·rw [ea x i hx hi] at h
  rw [ea y z hy hz,ec x _ hx (B.ain y z hy hz),ec x y hx hy,ec x z hx hz,ea _ i (B.cin x y hx hy) hi,ea _ _ (B.ain _ i (B.cin x y hx hy) hi) (B.cin x z hx hz),B.brc x y z i hx hy hz hi h]
theorem mskN_bit (p:Nat→Bool):∀n k,(mskN p n).testBit k=(decide (k<n)&&p k)
 | 0,k=>by simp [mskN]
 | n+1,k=>by
  simp only [mskN]
  have ih:=mskN_bit p n k
  split
  ·rename_i hp
   rw [Nat.testBit_or,ih,Nat.testBit_two_pow]
   by_cases h1:n=k
   ·subst h1;simp [hp]
   ·by_cases h2:k<n
    ·simp [h1,h2,show k<n+1 by omega]
    ·simp [h1,h2,show ¬ k<n+1 by omega]
  ·rename_i hp
   rw [ih]
   by_cases h1:n=k
   ·subst h1;simp [hp]
   ·by_cases h2:k<n
    ·simp [h2,show k<n+1 by omega]
    ·simp [h2,show ¬ k<n+1 by omega]
def soQ (a c:List (List Int)) (x y:Nat):Bool:=decide (en c x y=en a x y)&&decide (en a x y=en a y x)
def soP (a c:List (List Int)) (x:Nat):Bool:=(List.range a.length).all (soQ a c x)
def soM (a c:List (List Int)) (i:Nat):Nat:=mskN (soP a c) i
def soS (a c:List (List Int)):Int:=(soM a c a.length:Nat)
theorem soS_bit (a c:List (List Int)) (k:Nat):bitB (soS a c) k=(decide (k<a.length)&&soP a c k):=by
 unfold bitB soS soM
 rw [Int.toNat_natCast,mskN_bit]
theorem soS_ok {a:List (List Int)} (h:tabB a=true) (c:List (List Int)):setOk a (soS a c):=by
 refine ⟨h,Int.natCast_nonneg _,?_⟩
 unfold soS soM
 rw [Int.toNat_natCast]
 exact mskN_lt _ _
def tA (t:List (List Int)) (x y:Nat):Nat:=(en t x y).toNat
def brT (a c:List (List Int)):Prop:=tabB a=true∧tabB c=true∧c.length=a.length∧BrN a.length (tA a) (tA c)
theorem tA_lt {t:List (List Int)} (h:tabB t=true) {x y:Nat} (hx:x<t.length) (hy:y<t.length):tA t x y<t.length∧en t x y=(tA t x y:Int):=by
 have:=((tabB_of h).2.2 x hx).2 y hy
 unfold tA
 unfold en
 omega
theorem idxL_get (x:Int):∀(l:List Int) (k:Int),x∈l→l.getD (idxL x l k - k).toNat 0=x
 | [],k,h=>by simp at h
 | y::l,k,h=>by
  simp only [idxL]
  split
  ·rename_i hy;subst hy;simp
  ·rename_i hy
   have hm:x∈l:=by
    rcases List.mem_cons.1 h with rfl | h
    ·exact absurd rfl hy
    ·exact h
   have ih:=idxL_get x l (k+1) hm
   have hn:k+1≤idxL x l (k+1):=by
    have:∀(l:List Int) (k:Int),x∈l→k≤idxL x l k:=fun l=>by
     induction l with
     | nil=>intro k h;simp at h
     | cons z l ihl =>
      intro k h
      simp only [idxL]
      split
      ·omega
      ·rename_i hz
       have hm:x∈l:=by
        rcases List.mem_cons.1 h with rfl | h
        ·exact absurd rfl hz
        ·exact h
       have:=ihl (k+1) hm
       omega
    exact this l (k+1) hm
   rw [show (idxL x l (k+1) - k).toNat=(idxL x l (k+1) - (k+1)).toNat+1 by omega]
   simpa using ih
theorem grp_facts {t:List (List Int)} (h:grpB t=true) :
  (∀x y z,x<t.length→y<t.length→z<t.length→tA t (tA t x y) z=tA t x (tA t y z))∧(∀x,x<t.length→tA t 0 x=x)∧(∀x,x<t.length→tA t x 0=x) ∧
  (∀x,x<t.length→(bk t x).toNat<t.length∧tA t x (bk t x).toNat=0):=by
 have ht:=tabB_of (grp_tab h)
 have hbk:=fun x (hx:x<t.length)=>bk_in h hx
 rw [grpB,Bool.and_eq_true,Bool.and_eq_true] at h
 obtain ⟨_,hp,hg⟩:=h
 rw [List.all_eq_true] at hg
 have hg2:∀x,x<t.length→zrX t x=true∧asX t x=true:=fun x hx=>by
  have:=hg x (by simpa using hx)
  rw [gpX,Bool.and_eq_true] at this
  exact this
 refine ⟨fun x y z hx hy hz=>?_,fun x hx=>?_,fun x hx=>?_,fun x hx=>⟨?_,?_⟩⟩
 ·have h1:=(hg2 x hx).2
  rw [asX,List.all_eq_true] at h1
  have h2:=h1 y (by simpa using hy)
  rw [asY,List.all_eq_true] at h2
  have h3:=of_decide_eq_true (h2 z (by simpa using hz))
  unfold tA
  rw [h3]
 ·have h1:=(hg2 x hx).1
  rw [zrX,Bool.and_eq_true] at h1
  have:=of_decide_eq_true h1.1
  unfold tA;rw [this];rfl
 ·have h1:=(hg2 x hx).1
  rw [zrX,Bool.and_eq_true] at h1
  have:=of_decide_eq_true h1.2
  unfold tA;rw [this];rfl
 ·have:=hbk x hx;omega
 ·have hr:=ht.2.2 x hx
  have hpx:permB (t.getD x [])=true:=by
   rw [all_idx,List.all_eq_true] at hp
   exact hp x (by simpa using hx)
  have hm:=perm_has hpx (x:=0) (by omega) (by omega)
  have:=idxL_get 0 (t.getD x []) 0 hm
  rw [Int.sub_zero] at this
  unfold tA en bk
  rw [this];rfl
theorem firstO_none {α:Type} {n:Nat} {q:Nat→Option α}:∀{k:Nat},k≤n→firstO n q k=none→∀i,n - k≤i→i<n→q i=none
 | 0,_,_,i,h1,h2=>by omega
 | k+1,hk,h,i,h1,h2=>by
  simp only [firstO,Option.or_eq_none_iff] at h
  by_cases hi:i=n - (k+1)
  ·subst hi;exact h.1
  ·exact firstO_none (by omega) h.2 i (by omega) h2
theorem brT_of {a c:List (List Int)} (h:brcB a c=true):brT a c:=by
 obtain ⟨h1,h2,h3,h4⟩:=brcB_of h
 obtain ⟨a1,a2,a3,a4⟩:=grp_facts h1
 obtain ⟨c1,c2,c3,c4⟩:=grp_facts h2
 rw [←h3] at c1 c2 c3 c4
 have ta:=grp_tab h1
 have tc:=grp_tab h2
 have hA:∀x y,x<a.length→y<a.length→tA a x y<a.length∧en a x y=(tA a x y:Int):=fun x y hx hy=>tA_lt ta hx hy
 have hC:∀x y,x<a.length→y<a.length→tA c x y<a.length∧en c x y=(tA c x y:Int):=fun x y hx hy=>by
  have:=tA_lt tc (x:=x) (y:=y) (by omega) (by omega)
  rwa [←h3] at this
 refine ⟨ta,tc,h3.symm,(tabB_of ta).1,fun x y hx hy=>(hA x y hx hy).1,fun x y hx hy=>(hC x y hx hy).1,a1,c1,a2,a3,c2,c3,fun x hx=>⟨_,a4 x hx⟩,fun x hx=>⟨_,c4 x hx⟩,fun x y z i hx hy hz hi hxi=>?_⟩
 have ei:i=(bk a x).toNat:=by
  obtain ⟨hk,hxk⟩:=a4 x hx
  obtain ⟨z2,hz2,hkz⟩:∃z2,z2<a.length∧tA a (bk a x).toNat z2=0:=⟨_,a4 _ hk⟩
  have:x=z2:=(a3 x hx).symm.trans (by rw [←hkz,←a1 x _ _ hx hk hz2,hxk,a2 _ hz2])
  subst this
  rw [←a2 i hi,←hkz,a1 _ x i hk hx hi,hxi,a3 _ hk]
 subst ei
 have h5:brF a c=none:=by simpa using h4
 have h6:=firstO_none (Nat.le_refl _) h5 x (by omega) hx
 have h7:=firstO_none (Nat.le_refl _) h6 y (by omega) hy
 have h8:=firstO_none (Nat.le_refl _) h7 z (by omega) hz
 rw [brZ] at h8
 split at h8
 ·rename_i h9
  unfold tA
  rw [h9]
 ·cases h8
section
variable {a c:List (List Int)} (B:brT a c)
include B
theorem so_soc (t:Nat):bitB (soS a c) t=true↔SocP a.length (tA a) (tA c) t:=by
 obtain ⟨ta,tc,hl,hB⟩:=B
 rw [soS_bit,Bool.and_eq_true,decide_eq_true_eq,soP,List.all_eq_true]
 constructor
 ·rintro ⟨h1,h2⟩
  refine ⟨h1,fun z hz=>?_⟩
  have:=h2 z (by simpa using hz)
  rw [soQ,Bool.and_eq_true,decide_eq_true_eq,decide_eq_true_eq] at this
  unfold tA
  rw [this.1,←this.2]
  exact ⟨rfl,rfl⟩
 ·rintro ⟨h1,h2⟩
  refine ⟨h1,fun z hz=>?_⟩
  have hz:z<a.length:=by simpa using hz
  have:=h2 z hz
  have e1:=(tA_lt ta h1 hz).2
  have e2:=(tA_lt ta hz h1).2
  have e3:=(tA_lt tc (x:=t) (y:=z) (by omega) (by omega)).2
  rw [soQ,Bool.and_eq_true,decide_eq_true_eq,decide_eq_true_eq]
  omega
def lb (a:List (List Int)) (s:Int) (x:Nat):Nat:=(lsN a s x a.length).toNat
end
section
variable {a c:List (List Int)} (B:brT a c)
include B
def cm (a c:List (List Int)):Nat:=(foN (csL a (soS a c)) (csL a (soS a c)).length).length
end
def Equal_p (a:List Int) (b:List Int):Post:=⟨a.length≤9223372036854775807∧b.length≤9223372036854775807,.c (.bool (decide (a=b))),[]⟩
def Equal_ct:List AD→Option Post
 | [.c (.ints .i64 (a)),.c (.ints .i64 (b))]=>some (Equal_p a b)
 | _=>none
def Equal_ann (a:List Int) (b:List Int):Nat→Option Ann
 | 0=>some (Ann.mk ((Nat)) (fun i=>⟨[(0,.c (.ro (.ints .i64 (a)))),(1,.c (.ro (.ints .i64 (b)))),(12,.c (.int .i64 ((a.length:Int)))),(13,.c (.int .i64 ((i:Int))))],[]⟩) (fun i=>i≤a.length∧a.length=b.length∧decide (a=b)=decide (a.drop i=b.drop i)) (fun i=>a.length - i) (fun _=>noAnn))
 | _=>none
def Equal_G:List (Nat×Ctr):=[]
def Equal_V (a:List Int) (b:List Int):Prop :=
 (BrP ((↑(a.length):Int) != (↑(b.length):Int)) ((false=decide (a=b))∧True) ((∃x0:Nat,(((x0≤a.length)∧((a.length=b.length)∧(decide (a=b)=decide (List.drop x0 a=List.drop x0 b))))∧((a=a)∧((b=b)∧(((↑(a.length):Int)=(↑(a.length):Int))∧((0:Int)=(↑x0:Int)))))))∧(∀x1:Nat,(((x1≤a.length)∧((a.length=b.length)∧(decide (a=b)=decide (List.drop x1 a=List.drop x1 b))))→(BrP (decide ((↑x1:Int)<(↑(a.length):Int))) ((inB (↑x1:Int) (a.length))∧((inB (↑x1:Int) (b.length))∧(BrP (a.getD ((↑x1:Int).toNat) (0:Int) != b.getD ((↑x1:Int).toNat) (0:Int)) ((false=decide (a=b))∧True) ((InR ((↑x1:Int)+(1:Int)))∧(∃x2:Nat,(((x2≤a.length)∧((a.length=b.length)∧(decide (a=b)=decide (List.drop x2 a=List.drop x2 b))))∧((a.length - x2<a.length - x1)∧((a=a)∧((b=b)∧(((↑(a.length):Int)=(↑(a.length):Int))∧((↑x1:Int)+(1:Int)=(↑x2:Int)))))))))))) ((true=decide (a=b))∧True))))))
theorem Equal_vc (a:List Int) (b:List Int):runF Try.prog (gam Equal_G) noWr (Equal_ann a b) Try.f70 (bodyOf Try.f70) [] [.c (.ints .i64 (a)),.c (.ints .i64 (b))] (Equal_p a b)=Equal_V a b:=by kernel_rfl
theorem Equal_ok (a:List Int) (b:List Int) (hpre:(Equal_p a b).pre):Equal_V a b:=by
 simp only [Equal_p,Equal_V,BrP_iff,u1,u2,u3,u4,u5,u6,u7,u8,u9,v1,v2,v3,v4,v5,v6,v7,v8,v9,w1,w2,w3,w4,markL_length,inB,InR,room,bdsOk] at hpre ⊢
 refine ⟨fun h=>?_,fun h=>⟨⟨0,⟨by omega,by omega,rfl⟩,rfl⟩,fun i ⟨hi,hl,he⟩=>⟨fun h2=>?_,fun h2=>?_⟩⟩⟩
 ·exact (decide_eq_false fun e=>h (by rw [e])).symm
 ·have ea:=drop_cons' a 0 i (by omega)
  have eb:=drop_cons' b 0 i (by omega)
  refine ⟨by omega,by omega,fun h3=>?_,fun h3=>⟨by omega,i+1,⟨by omega,hl,?_⟩,by omega,by omega⟩⟩
  ·rw [he,ea,eb]
   exact (decide_eq_false fun e=>h3 (by injection e)).symm
  ·rw [he,ea,eb,h3]
   simp
 ·rw [he,List.drop_eq_nil_of_le (by omega),List.drop_eq_nil_of_le (by omega)];rfl
theorem Equal_fits:Fits Try.prog 70 ⟨[],Equal_ct⟩:=by
 refine ffn (Γ:=gam Equal_G) gok_nil Try.func70 fun ds p h hp=>?_
 unfold Equal_ct at h
 split at h
 ·cases h
  exact ⟨noWr,Equal_ann _ _ ,by rw [Equal_vc];exact Equal_ok _ _  hp⟩
 ·cases h
def transposed1_p (x:Int) (y:Int) (t:List (List Int)):Post:=⟨tabB t=true∧0≤x∧x<(t.length:Int)∧0≤y∧y<(t.length:Int),.c (.int .i64 (en t y.toNat x.toNat)),[]⟩
def transposed1_ct:List AD→Option Post
 | [.c (.int .i64 (x)),.c (.int .i64 (y)),.box [.rows .i64 (t)]]=>some (transposed1_p x y t)
 | _=>none
def transposed1_G:List (Nat×Ctr):=[]
def transposed1_V (x:Int) (y:Int) (t:List (List Int)):Prop :=
 ((inB y (t.length))∧((inB x ((t.getD (y.toNat) []).length))∧(((List.getD t (y.toNat) []).getD (x.toNat) (0:Int)=en t (y.toNat) (x.toNat))∧True)))
theorem transposed1_vc (x:Int) (y:Int) (t:List (List Int)):runF Try.prog (gam transposed1_G) noWr noAnn Try.f102 (bodyOf Try.f102) [] [.c (.int .i64 (x)),.c (.int .i64 (y)),.box [.rows .i64 (t)]] (transposed1_p x y t)=transposed1_V x y t:=by kernel_rfl
theorem transposed1_ok (x:Int) (y:Int) (t:List (List Int)) (hpre:(transposed1_p x y t).pre):transposed1_V x y t:=by
 simp only [transposed1_p,transposed1_V,BrP_iff,u1,u2,u3,u4,u5,u6,u7,u8,u9,v1,v2,v3,v4,v5,v6,v7,v8,v9,w1,w2,w3,w4,markL_length,inB,InR,room,bdsOk] at hpre ⊢
 obtain ⟨h1,x1,x2,y1,y2⟩:=hpre
 obtain ⟨n1,n2,ht⟩:=tabB_of h1
 have r:=ht y.toNat (by omega)
 exact ⟨by omega,by omega,rfl⟩
theorem transposed1_fits:Fits Try.prog 102 ⟨[],transposed1_ct⟩:=by
 refine ffn (Γ:=gam transposed1_G) gok_nil Try.func102 fun ds p h hp=>?_
 unfold transposed1_ct at h
 split at h
 ·cases h
  exact ⟨noWr,noAnn,by rw [transposed1_vc];exact transposed1_ok _ _ _  hp⟩
 ·cases h
def trT (t:List (List Int)):List (List Int):=tabR t.length fun x y=>en t y x
def transposed_p (t:List (List Int)):Post:=⟨tabB t=true,.c (.rows 22 2 .i64 (trT t)),[]⟩
def transposed_ct:List AD→Option Post
 | [.c (.rows .i64 (t))]=>some (transposed_p t)
 | _=>none
def transposed_G:List (Nat×Ctr):=[(97,⟨[],tableBy_ct⟩),(102,⟨[],transposed1_ct⟩)]
def transposed_V (t:List (List Int)):Prop :=
 (((((0:Int)≤(↑(t.length):Int))∧(((↑(t.length):Int)≤(144:Int))∧(∀(x y:Int),(0:Int)≤x→x<(↑(t.length):Int)→(0:Int)≤y→y<(↑(t.length):Int)→ctQI (transposed1_ct [AD.c (FC.int IntKind.i64 x),AD.c (FC.int IntKind.i64 y),AD.box [FC.rows IntKind.i64 t]]))))∧True)∧(((tabR ((↑(t.length):Int).toNat) fun (x y:Nat)=>ctI (transposed1_ct [AD.c (FC.int IntKind.i64 (↑x:Int)),AD.c (FC.int IntKind.i64 (↑y:Int)),AD.box [FC.rows IntKind.i64 t]]))=trT t)∧True))
theorem transposed_vc (t:List (List Int)):runF Try.prog (gam transposed_G) noWr noAnn Try.f55 (bodyOf Try.f55) [] [.c (.rows .i64 (t))] (transposed_p t)=transposed_V t:=by kernel_rfl
theorem transposed_ok (t:List (List Int)) (hpre:(transposed_p t).pre):transposed_V t:=by
 simp only [transposed_p,transposed_V,BrP_iff,u1,u2,u3,u4,u5,u6,u7,u8,u9,v1,v2,v3,v4,v5,v6,v7,v8,v9,w1,w2,w3,w4,markL_length,inB,InR,room,bdsOk] at hpre ⊢
 obtain ⟨n1,n2,ht⟩:=tabB_of hpre
 exact ⟨⟨by omega,by omega,fun x y a1 a2 a3 a4=>⟨hpre,a1,a2,a3,a4⟩⟩,tabR_ext fun x y hx hy=>rfl⟩
theorem transposed_fits:Fits Try.prog 55 ⟨[],transposed_ct⟩:=by
 refine ffn (Γ:=gam transposed_G) (gok_cons tableBy_fits (gok_cons transposed1_fits gok_nil)) Try.func55 fun ds p h hp=>?_
 unfold transposed_ct at h
 split at h
 ·cases h
  exact ⟨noWr,noAnn,by rw [transposed_vc];exact transposed_ok _  hp⟩
 ·cases h
theorem list_ext0 {a b:List Int} (h:a.length=b.length) (k:∀i,i<a.length→a.getD i 0=b.getD i 0):a=b:=by
 apply List.ext_getElem h
 intro i h1 h2
 have:=k i h1
 rwa [getD_lt a 0 i h1,getD_lt b 0 i h2] at this
theorem soP_iff {a c:List (List Int)} (h1:tabB a=true) (h2:tabB c=true) (hl:c.length=a.length) {x:Nat} (hx:x<a.length) :
  soP a c x=true↔(a.getD x []=c.getD x []∧a.getD x []=(trT a).getD x []):=by
 have ra:=(tabB_of h1).2.2 x hx
 have rc:=(tabB_of h2).2.2 x (by omega)
 have et:(trT a).getD x []=tab a.length fun y=>en a y x:=tabR_getD _ _ _ hx
 rw [soP,List.all_eq_true]
 constructor
 ·intro h
  have h:∀y,y<a.length→en c x y=en a x y∧en a x y=en a y x:=fun y hy=>by
   have:=h y (by simpa using hy)
   rw [soQ,Bool.and_eq_true,decide_eq_true_eq,decide_eq_true_eq] at this
   exact this
  refine ⟨list_ext0 (by omega) fun i hi=>(h i (by omega)).1.symm,?_⟩
  rw [et]
  exact list_ext0 (by rw [tab_length];omega) fun i hi=>by rw [tab_getD _ _ _ (by omega)];exact (h i (by omega)).2
 ·rintro ⟨e1,e2⟩ y hy
  have hy:y<a.length:=by simpa using hy
  rw [soQ,Bool.and_eq_true,decide_eq_true_eq,decide_eq_true_eq]
  refine ⟨by unfold en;rw [e1],?_⟩
  rw [et] at e2
  show (a.getD x []).getD y 0=_
  rw [e2,tab_getD _ _ _ hy]
theorem soM_yes {a c:List (List Int)} {i:Nat} (h:soP a c i=true):soM a c i ||| 2 ^ i=soM a c (i+1):=by
 unfold soM;simp only [mskN];rw [if_pos h]
theorem soM_no {a c:List (List Int)} {i:Nat} (h:¬ soP a c i=true):soM a c i=soM a c (i+1):=by
 unfold soM;simp only [mskN];rw [if_neg h]
theorem soM_lt (a c:List (List Int)) {i n:Nat} (h:i≤n) (hn:n≤12):soM a c i<4096:=by
 have:=mskN_lt (soP a c) i
 have h2:=pow_12 (n:=i) (by omega)
 unfold soM;omega
def socleOf_p (a:List (List Int)) (c:List (List Int)):Post:=⟨tabB a=true∧tabB c=true∧c.length=a.length,.c (.int .i64 (soS a c)),[]⟩
def socleOf_ct:List AD→Option Post
 | [.agg [.rows .i64 (a),.rows .i64 (c)]]=>some (socleOf_p a c)
 | _=>none
def socleOf_ann (a:List (List Int)) (c:List (List Int)):Nat→Option Ann
 | 0=>some (Ann.mk ((Nat)) (fun i=>⟨[(1,.c (.ptr 1 0)),(3,.c (.own (9))),(4,.c (.int .i64 (((soM a c i:Nat):Int)))),(11,.c (.ro (.rows .i64 (a)))),(12,.c (.int .i64 ((a.length:Int)))),(13,.c (.int .i64 ((i:Int))))],[(1,some (.box [.ro (.rows .i64 (a)),.ro (.rows .i64 (c))])),(9,some (.rows 0 22 2 .i64 (trT a)))]⟩) (fun i=>i≤a.length) (fun i=>a.length - i) (fun _=>noAnn))
 | _=>none
def socleOf_G:List (Nat×Ctr):=[(55,⟨[],transposed_ct⟩),(70,⟨[],Equal_ct⟩)]
def socleOf_V (a:List (List Int)) (c:List (List Int)):Prop :=
 (((tabB a=true)∧True)∧((∃x0:Nat,((x0≤a.length)∧(((0:Int)=(↑(soM a c x0):Int))∧((a=a)∧(((↑(a.length):Int)=(↑(a.length):Int))∧(((0:Int)=(↑x0:Int))∧((a=a)∧((c=c)∧(trT a=trT a)))))))))∧(∀x1:Nat,((x1≤a.length)→(BrP (decide ((↑x1:Int)<(↑(a.length):Int))) ((inB (↑x1:Int) (a.length))∧((inB (↑x1:Int) (c.length))∧(((((a.getD ((↑x1:Int).toNat) []).length≤(9223372036854775807:Nat))∧((c.getD ((↑x1:Int).toNat) []).length≤(9223372036854775807:Nat)))∧True)∧(BrP (decide (a.getD ((↑x1:Int).toNat) []=c.getD ((↑x1:Int).toNat) [])) ((inB (↑x1:Int) ((trT a).length))∧(((((a.getD ((↑x1:Int).toNat) []).length≤(9223372036854775807:Nat))∧(((trT a).getD ((↑x1:Int).toNat) []).length≤(9223372036854775807:Nat)))∧True)∧(BrP (decide (a.getD ((↑x1:Int).toNat) []=(trT a).getD ((↑x1:Int).toNat) [])) (((((0:Int)≤(↑x1:Int))∧((↑x1:Int)≤(62:Int)))∧(InR ((1:Int) * (2:Int) ^ (↑x1:Int).toNat)))∧(((IntKind.i64=IntKind.i64)∧((((0:Int)≤(↑(soM a c x1):Int))∧((↑(soM a c x1):Int)≤(9223372036854775807:Int)))∧(((0:Int)≤(1:Int) * (2:Int) ^ (↑x1:Int).toNat)∧((1:Int) * (2:Int) ^ (↑x1:Int).toNat≤(9223372036854775807:Int)))))∧((InR ((↑x1:Int)+(1:Int)))∧(∃x2:Nat,((x2≤a.length)∧((a.length - x2<a.length - x1)∧(((↑((↑(soM a c x1):Int).toNat ||| ((1:Int) * (2:Int) ^ (↑x1:Int).toNat).toNat):Int)=(↑(soM a c x2):Int))∧((a=a)∧(((↑(a.length):Int)=(↑(a.length):Int))∧(((↑x1:Int)+(1:Int)=(↑x2:Int))∧((a=a)∧((c=c)∧(trT a=trT a)))))))))))))
 ((InR ((↑x1:Int)+(1:Int)))∧(∃x3:Nat,((x3≤a.length)∧((a.length - x3<a.length - x1)∧(((↑(soM a c x1):Int)=(↑(soM a c x3):Int))∧((a=a)∧(((↑(a.length):Int)=(↑(a.length):Int))∧(((↑x1:Int)+(1:Int)=(↑x3:Int))∧((a=a)∧((c=c)∧(trT a=trT a)))))))))))))) ((InR ((↑x1:Int)+(1:Int)))∧(∃x4:Nat,((x4≤a.length)∧((a.length - x4<a.length - x1)∧(((↑(soM a c x1):Int)=(↑(soM a c x4):Int))∧((a=a)∧(((↑(a.length):Int)=(↑(a.length):Int))∧(((↑x1:Int)+(1:Int)=(↑x4:Int))∧((a=a)∧((c=c)∧(trT a=trT a))))))))))))))) (((↑(soM a c x1):Int)=soS a c)∧True))))))
theorem socleOf_vc (a:List (List Int)) (c:List (List Int)):runF Try.prog (gam socleOf_G) noWr (socleOf_ann a c) Try.f53 (bodyOf Try.f53) [] [.agg [.rows .i64 (a),.rows .i64 (c)]] (socleOf_p a c)=socleOf_V a c:=by kernel_rfl
theorem socleOf_ok (a:List (List Int)) (c:List (List Int)) (hpre:(socleOf_p a c).pre):socleOf_V a c:=by
 simp only [socleOf_p,socleOf_V,BrP_iff,u1,u2,u3,u4,u5,u6,u7,u8,u9,v1,v2,v3,v4,v5,v6,v7,v8,v9,w1,w2,w3,w4,markL_length,inB,InR,room,bdsOk] at hpre ⊢
 obtain ⟨h1,h2,hl⟩:=hpre
 obtain ⟨n1,n2,ha⟩:=tabB_of h1
 obtain ⟨_,_,hc⟩:=tabB_of h2
 have hT:(trT a).length=a.length:=tabR_length _ _
 refine ⟨h1,⟨0,by omega,rfl,rfl⟩,fun i hi=>⟨fun h=>?_,fun h=>?_⟩⟩
 ·have hs:=soP_iff h1 h2 hl (x:=i) (by omega)
  have r1:=(ha i (by omega)).1
  have r2:=(hc i (by omega)).1
  have r3:((trT a).getD i []).length=a.length:=by rw [trT,tabR_getD _ _ _ (by omega),tab_length]
  have ml:=soM_lt a c (i:=i) (n:=a.length) (by omega) n2
  have p12:=pow_12 (n:=i) (by omega)
  have pp:=Int.natCast_nonneg (2 ^ i)
  have pn:(1 * (2:Int) ^ i)=((2 ^ i:Nat):Int):=by rw [Int.one_mul,Int.natCast_pow];rfl
  rw [pn]
  refine ⟨by omega,by omega,by omega,fun e1=>⟨by omega,by omega,fun e2=>?_,fun e2=>?_⟩,fun e1=>?_⟩
  ·refine ⟨by omega,by omega,by omega,i+1,by omega,by omega,?_,by omega⟩
   rw [Int.toNat_natCast,soM_yes (hs.2 ⟨e1,e2⟩)]
  ·exact ⟨by omega,i+1,by omega,by omega,by rw [soM_no fun h=>e2 (hs.1 h).2],by omega⟩
  ·exact ⟨by omega,i+1,by omega,by omega,by rw [soM_no fun h=>e1 (hs.1 h).1],by omega⟩
 ·rw [show i=a.length by omega];rfl
theorem socleOf_fits:Fits Try.prog 53 ⟨[],socleOf_ct⟩:=by
 refine ffn (Γ:=gam socleOf_G) (gok_cons transposed_fits (gok_cons Equal_fits gok_nil)) Try.func53 fun ds p h hp=>?_
 unfold socleOf_ct at h
 split at h
 ·cases h
  exact ⟨noWr,socleOf_ann _ _ ,by rw [socleOf_vc];exact socleOf_ok _ _  hp⟩
 ·cases h
end Go.Sx
