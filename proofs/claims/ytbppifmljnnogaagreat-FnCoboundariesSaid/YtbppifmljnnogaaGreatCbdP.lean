/- CbdP -/
import Derived.Test.YtbppifmljnnogaaGreatRxtP
import Derived.Test.YtbppifmljnnogaaGreatCyc
open Go Go.Proofs
namespace Go.Sx
set_option linter.unusedSimpArgs false
set_option linter.unusedVariables false
inductive Cn (t:List (List Int)):Nat→Nat→Prop
 | refl (k:Nat):Cn t k k
 | fwd {a x y:Nat}:x<t.length→y<t.length→Cn t a y→Cn t a (en t x y).toNat
 | bwd {a x y:Nat}:x<t.length→y<t.length→Cn t a (en t x y).toNat→Cn t a y
theorem leastN (P:Nat→Prop):∀n,P n→∃a,P a∧∀b,P b→a≤b:=fun n=>by
 induction n using Nat.strongRecOn with
 | ind n ih =>
  intro h
  by_cases k:∃b,b<n∧P b
  ·obtain ⟨b,hb,hp⟩:=k;exact ih b hb hp
  ·exact ⟨n,h,fun b hb=>Nat.le_of_not_lt fun hl=>k ⟨b,hl,hb⟩⟩
theorem cn_lead {t:List (List Int)} {r:Nat→Nat} (h:∀x y,x<t.length→y<t.length→r (en t x y).toNat=r y) {a k:Nat} (c:Cn t a k):r k=r a:=by
 induction c with
 | refl=>rfl
 | fwd hx hy _ ih=>rw [h _ _ hx hy,ih]
 | bwd hx hy _ ih=>rw [←h _ _ hx hy,ih]
theorem lead_ex (t:List (List Int)):∃r:Nat→Nat,(∀k,Cn t (r k) k∧r k≤k)∧∀x y,x<t.length→y<t.length→r (en t x y).toNat=r y:=by
 have h:∀k,∃a,Cn t a k∧∀b,Cn t b k→a≤b:=fun k=>leastN _ k (.refl k)
 refine ⟨fun k=>Classical.choose (h k),fun k=>⟨(Classical.choose_spec (h k)).1,(Classical.choose_spec (h k)).2 _ (.refl k)⟩,fun x y hx hy=>?_⟩
 exact Nat.le_antisymm ((Classical.choose_spec (h _)).2 _ (.fwd hx hy (Classical.choose_spec (h y)).1)) ((Classical.choose_spec (h y)).2 _ (.bwd hx hy (Classical.choose_spec (h _)).1))
def clB (t:List (List Int)) (g:List Int):Prop:=∀x y,x<t.length→y<t.length→(0≤g.getD y 0↔0≤g.getD (en t x y).toNat 0)
theorem Stay.set {g h:List Int} (s:Stay g h) {k:Nat} (hk:k<g.length) (h0:0≤g.getD k 0):0≤h.getD k 0:=by rw [s.2 k hk h0];exact h0
theorem pass_cl {t:List (List Int)} {m:Int} {f:List (List Int)} {g:List Int} (G:Good t m f g) (e:passG t m f t.length g=g):clB t g:=by
 intro x y hx hy
 obtain ⟨n1,n2,ht⟩:=tabB_of G.tab
 obtain ⟨m1,m2,m3,hf⟩:=matB_of G.mat
 have a:=(ht x hx).2 y hy
 have ly:y<g.length:=by rw [G.len];exact hy
 have lz:(en t x y).toNat<g.length:=by rw [G.len];unfold en;omega
 have s0:Stay g (rowG t m f x y (passG t m f x g)):=by
  have:=rowG_stay t m f x (passG t m f x g) 0 y
  rw [Nat.zero_add] at this
  exact (passG_stay0 t m f g x).trans this
 have s2:Stay (rowG t m f x (y+1) (passG t m f x g)) g:=by
  have p:=rowG_stay t m f x (passG t m f x g) (y+1) (t.length - (y+1))
  rw [show y+1+(t.length - (y+1))=t.length by omega,←passG_step] at p
  have q:=passG_stay t m f g (x+1) (t.length - (x+1))
  rw [show x+1+(t.length - (x+1))=t.length by omega,e] at q
  exact p.trans q
 rw [rowG_step] at s2
 have s1:=sg_stay t m f (rowG t m f x y (passG t m f x g)) x y
 have B:Good t m f (rowG t m f x y (passG t m f x g)):=(rowG_good (passG_good G x (by omega)).1 x hx y (by omega)).1
 generalize rowG t m f x y (passG t m f x g)=b at s0 s1 s2 B
 have lb:b.length=g.length:=s0.1
 have back:∀k,k<g.length→0≤(sg t m f b x y).getD k 0→0≤b.getD k 0→True:=fun _ _ _ _=>trivial
 have c:=(hf x (by omega)).2 y (by have:=(hf x (by omega)).1;omega)
 have vb:=B.val y (by omega)
 have vz:=B.val (en t x y).toNat (by omega)
 constructor
 ·intro h
  have hb:=s0.set ly h
  by_cases k:0≤b.getD (en t x y).toNat 0
  ·exact s2.set (by rw [s1.1];omega) (s1.set (by omega) k)
  ·have:0≤(sg t m f b x y).getD (en t x y).toNat 0:=by
    unfold sg
    rw [if_pos ⟨hb,by omega⟩,getD_set _ _ _ _ (by omega),if_pos rfl]
    exact (tmod_in (by unfold en at *;omega) m1).1
   exact s2.set (by rw [s1.1];omega) this
 ·intro h
  have hb:=s0.set lz h
  by_cases k:0≤b.getD y 0
  ·exact s2.set (by rw [s1.1];omega) (s1.set (by omega) k)
  ·have:0≤(sg t m f b x y).getD y 0:=by
    unfold sg
    rw [if_neg (fun h=>k h.1),if_pos ⟨hb,by omega⟩,getD_set _ _ _ _ (by omega),if_pos rfl]
    exact (tmod_in (by unfold en at *;omega) m1).1
   exact s2.set (by rw [s1.1];omega) this
theorem growG_fix {t:List (List Int)} {m:Int} {f:List (List Int)}:∀(k:Nat) {g:List Int},Good t m f g→negs g<k→passG t m f t.length (growG t m f k g)=growG t m f k g
 | 0,_,_,h=>by omega
 | k+1,g,G,h=>by
  simp only [growG]
  split
  ·assumption
  ·rename_i hn
   obtain ⟨a,b⟩:=passG_good G t.length (Nat.le_refl _)
   have:=b.resolve_left hn
   exact growG_fix k a (by omega)
theorem growF_cl {t:List (List Int)} {m:Int} {f:List (List Int)} {g:List Int} (G:Good t m f g):clB t (growF t m f g) :=
 pass_cl (growG_good _ G) (growG_fix _ G (by omega))
def vlR (m:Int) (g:List Int) (r:Nat→Nat) (h:List Int):Prop:=∀k,k<h.length→0≤h.getD k 0→h.getD k 0=(g.getD k 0 - g.getD (r k) 0+m).tmod m
theorem md_in {a b m:Int} (ha:0≤a) (hb:0≤b) (hb2:b≤m - 1) (hm:1≤m):0≤(a - b+m).tmod m∧(a - b+m).tmod m≤m - 1:=tmod_in (by omega) hm
theorem md_e {x m:Int} (h:0≤x):x.tmod m=x % m:=Int.tmod_eq_emod_of_nonneg h
theorem md_add {p q r m:Int} (hp:0≤p) (hq:0≤q) (hr:0≤r) (hp2:p≤m - 1) (hq2:q≤m - 1) (hr2:r≤m - 1) (hm:1≤m) :
  ((p - r+m).tmod m+(q - p+m).tmod m).tmod m=(q - r+m).tmod m:=by
 have a:=md_in hp hr hr2 hm
 have b:=md_in hq hp hp2 hm
 rw [md_e (x:=(p - r+m).tmod m+(q - p+m).tmod m) (by omega),md_e (x:=p - r+m) (by omega),md_e (x:=q - p+m) (by omega),md_e (x:=q - r+m) (by omega),←Int.add_emod,
  show p - r+m+(q - p+m)=(q - r+m)+m by omega,Int.add_emod_right]
theorem md_sub {p q r m:Int} (hp:0≤p) (hq:0≤q) (hr:0≤r) (hp2:p≤m - 1) (hq2:q≤m - 1) (hr2:r≤m - 1) (hm:1≤m) :
  ((q - r+m).tmod m - (q - p+m).tmod m+m).tmod m=(p - r+m).tmod m:=by
 have a:=md_in hq hr hr2 hm
 have b:=md_in hq hp hp2 hm
 rw [md_e (x:=(q - r+m).tmod m - (q - p+m).tmod m+m) (by omega),md_e (x:=p - r+m) (by omega),Int.add_emod_right,md_e (x:=q - r+m) (by omega),md_e (x:=q - p+m) (by omega),←Int.sub_emod,
  show q - r+m - (q - p+m)=p - r by omega,Int.add_emod_right]
section
variable {t:List (List Int)} {m:Int} {g:List Int} (h1:tabB t=true) (h2:shiftB (t.length:Int) m g=true)
theorem cb_mat (h1:tabB t=true) (h2:shiftB (t.length:Int) m g=true):matB (t.length:Int) m (tabR t.length (cbF t m g))=true:=by
 obtain ⟨m1,m2,m3,hg⟩:=shiftB_of h2
 simp only [matB,matsB,Bool.and_eq_true,decide_eq_true_eq,List.all_eq_true]
 refine ⟨⟨m1,m2⟩,by rw [tabR_length],fun r hr=>?_⟩
 obtain ⟨x,hx,rfl⟩:=List.getElem_of_mem hr
 rw [tabR_length] at hx
 rw [←getD_lt _ [] x (by rw [tabR_length];exact hx),tabR_getD _ _ _ hx]
 simp only [numsB,Bool.and_eq_true,decide_eq_true_eq]
 refine ⟨?_,by rw [tab_length]⟩
 rw [allW,List.all_eq_true]
 intro v hv
 obtain ⟨y,hy,rfl⟩:=List.getElem_of_mem hv
 rw [tab_length] at hy
 rw [←getD_lt _ 0 y (by rw [tab_length];exact hy),tab_getD _ _ _ hy]
 have:=cbF_in h1 h2 x y hx hy
 simp only [decide_eq_true_eq];omega
theorem en_cb (x y:Nat) (hx:x<t.length) (hy:y<t.length):en (tabR t.length (cbF t m g)) x y=(g.getD (en t x y).toNat 0 - g.getD y 0+m).tmod m:=by
 unfold en
 rw [tabR_getD _ _ _ hx,tab_getD _ _ _ hy];rfl
theorem sg_vl (h1:tabB t=true) (h2:shiftB (t.length:Int) m g=true) {r:Nat→Nat} (hr:∀k,r k≤k) (hr2:∀x y,x<t.length→y<t.length→r (en t x y).toNat=r y) {h:List Int} (hl:h.length=t.length)
  (hv:vlR m g r h) (x y:Nat) (hx:x<t.length) (hy:y<t.length):vlR m g r (sg t m (tabR t.length (cbF t m g)) h x y):=by
 have q:=cb_in h1 h2 x y hx hy
 obtain ⟨m1,m2,m3,hg⟩:=shiftB_of h2
 have lz:(en t x y).toNat<t.length:=by unfold en;omega
 have ry:=hg (r y) (by have:=hr y;omega)
 have gy:=hg y (by omega)
 have gz:=hg (en t x y).toNat (by omega)
 have e:=en_cb (m:=m) (g:=g) x y hx hy
 unfold sg
 split
 ·rename_i c
  intro k hk h0
  rw [List.length_set] at hk
  rw [getD_set _ _ _ _ hk] at h0 ⊢
  split
  ·rename_i ek
   rw [hv y (by omega) c.1,e,ek,hr2 x y hx hy]
   exact md_add gy.1 gz.1 ry.1 gy.2 gz.2 ry.2 m1
  ·rename_i ek;rw [if_neg ek] at h0;exact hv k hk h0
 ·split
  ·rename_i c
   intro k hk h0
   rw [List.length_set] at hk
   rw [getD_set _ _ _ _ hk] at h0 ⊢
   split
   ·rename_i ek
    rw [hv _ (by omega) c.1,e,ek,hr2 x y hx hy]
    exact md_sub gy.1 gz.1 ry.1 gy.2 gz.2 ry.2 m1
   ·rename_i ek;rw [if_neg ek] at h0;exact hv k hk h0
  ·exact hv
theorem row_vl (h1:tabB t=true) (h2:shiftB (t.length:Int) m g=true) {r:Nat→Nat} (hr:∀k,r k≤k) (hr2:∀x y,x<t.length→y<t.length→r (en t x y).toNat=r y) {h:List Int} (hl:h.length=t.length)
  (hv:vlR m g r h) (x:Nat) (hx:x<t.length):∀j,j≤t.length→vlR m g r (rowG t m (tabR t.length (cbF t m g)) x j h)
 | 0,_=>hv
 | j+1,hj=>by
  rw [rowG_step]
  exact sg_vl h1 h2 hr hr2 (by rw [rowG_length];exact hl) (row_vl h1 h2 hr hr2 hl hv x hx j (by omega)) x j hx (by omega)
theorem pass_vl (h1:tabB t=true) (h2:shiftB (t.length:Int) m g=true) {r:Nat→Nat} (hr:∀k,r k≤k) (hr2:∀x y,x<t.length→y<t.length→r (en t x y).toNat=r y) {h:List Int} (hl:h.length=t.length)
  (hv:vlR m g r h):∀i,i≤t.length→vlR m g r (passG t m (tabR t.length (cbF t m g)) i h)
 | 0,_=>hv
 | i+1,hi=>by
  rw [passG_step]
  exact row_vl h1 h2 hr hr2 (by rw [passG_length];exact hl) (pass_vl h1 h2 hr hr2 hl hv i (by omega)) i (by omega) _ (Nat.le_refl _)
theorem grow_vl (h1:tabB t=true) (h2:shiftB (t.length:Int) m g=true) {r:Nat→Nat} (hr:∀k,r k≤k) (hr2:∀x y,x<t.length→y<t.length→r (en t x y).toNat=r y):∀(k:Nat) {h:List Int},h.length=t.length→vlR m g r h →
  vlR m g r (growG t m (tabR t.length (cbF t m g)) k h)
 | 0,_,_,hv=>hv
 | k+1,h,hl,hv=>by
  simp only [growG]
  split
  ·exact hv
  ·exact grow_vl h1 h2 hr hr2 k (by rw [passG_length];exact hl) (pass_vl h1 h2 hr hr2 hl hv _ (Nat.le_refl _))
theorem cn_set (h1:tabB t=true) {h:List Int} (hc:clB t h) {a k:Nat} (c:Cn t a k) (h0:0≤h.getD a 0):0≤h.getD k 0:=by
 induction c with
 | refl=>exact h0
 | fwd hx hy _ ih=>exact (hc _ _ hx hy).1 ih
 | bwd hx hy _ ih=>exact (hc _ _ hx hy).2 ih
theorem src_inv (h1:tabB t=true) (h2:shiftB (t.length:Int) m g=true) {r:Nat→Nat} (hr:∀k,Cn t (r k) k∧r k≤k) (hr2:∀x y,x<t.length→y<t.length→r (en t x y).toNat=r y):∀i,i≤t.length →
  vlR m g r (srcN t m (tabR t.length (cbF t m g)) i)∧clB t (srcN t m (tabR t.length (cbF t m g)) i)∧∀k,k<t.length→r k<i→0≤(srcN t m (tabR t.length (cbF t m g)) i).getD k 0
 | 0,_=>by
  have e:∀k,k<t.length→(srcN t m (tabR t.length (cbF t m g)) 0).getD k 0=-1:=fun k hk=>by
   simp [srcN,List.getD_eq_getElem?_getD,hk]
  refine ⟨fun k hk h0=>?_,fun x y hx hy=>?_,fun k _ h=>by omega⟩
  ·simp only [srcN,List.length_replicate] at hk
   have:=e k hk
   omega
  ·have q:=(tabB_of h1).2.2 x hx
   have q2:=q.2 y hy
   rw [e y hy,e (en t x y).toNat (by unfold en;omega)]
 | i+1,hi=>by
  obtain ⟨a,b,c⟩:=src_inv h1 h2 hr hr2 i (by omega)
  have hm:=cb_mat h1 h2
  have G:=srcN_good h1 hm i
  have l:=G.len
  obtain ⟨m1,m2,m3,hg⟩:=shiftB_of h2
  simp only [srcN]
  split
  ·rename_i hs
   refine ⟨a,b,fun k hk hlt=>?_⟩
   by_cases e:r k=i
   ·exact cn_set h1 b (hr k).1 (by rw [e];exact hs)
   ·exact c k hk (by omega)
  ·rename_i hs
   have ri:r i=i:=by
    have:=(hr i).2
    by_cases e:r i<i
    ·exact absurd (c i (by omega) e) hs
    ·omega
   have G0:=set0_good G i
   have v0:vlR m g r ((srcN t m (tabR t.length (cbF t m g)) i).set i 0):=by
    intro k hk h0
    rw [List.length_set] at hk
    rw [getD_set _ _ _ _ hk] at h0 ⊢
    split
    ·rename_i ek
     rw [ek,ri,show g.getD i 0 - g.getD i 0+m=m by omega,Int.tmod_self]
    ·rename_i ek;rw [if_neg ek] at h0;exact a k hk h0
   have cl:=growF_cl G0
   refine ⟨grow_vl h1 h2 (fun k=>(hr k).2) hr2 _ (by rw [List.length_set];exact l) v0,cl,fun k hk hlt=>?_⟩
   have st:Stay (srcN t m (tabR t.length (cbF t m g)) i) (growF t m (tabR t.length (cbF t m g)) ((srcN t m (tabR t.length (cbF t m g)) i).set i 0)) :=
    (set0_stay (by omega)).trans (growG_stay _ _ _ _ _)
   by_cases e:r k=i
   ·refine cn_set h1 cl (hr k).1 ?_
    rw [e]
    have z:((srcN t m (tabR t.length (cbF t m g)) i).set i 0).getD i 0=0:=by rw [getD_set _ _ _ _ (by omega),if_pos rfl]
    exact Stay.set (growG_stay t m (tabR t.length (cbF t m g)) _ _) (by rw [List.length_set];omega) (by rw [z];exact Int.le_refl 0)
   ·exact st.set (by omega) (c k hk (by omega))
theorem src_val (h1:tabB t=true) (h2:shiftB (t.length:Int) m g=true):∃r:Nat→Nat,(∀k,r k≤k∧r (r k)=r k)∧(∀x y,x<t.length→y<t.length→r (en t x y).toNat=r y) ∧
  ∀k,k<t.length→(srcN t m (tabR t.length (cbF t m g)) t.length).getD k 0=(g.getD k 0 - g.getD (r k) 0+m).tmod m:=by
 obtain ⟨r,hr,hr2⟩:=lead_ex t
 obtain ⟨a,_,c⟩:=src_inv h1 h2 hr hr2 t.length (Nat.le_refl _)
 have l:=(srcN_good h1 (cb_mat h1 h2) t.length).len
 refine ⟨r,fun k=>⟨(hr k).2,(cn_lead hr2 (hr k).1).symm⟩,hr2,fun k hk=>?_⟩
 have:=(hr k).2
 exact a k (by omega) (c k hk (by omega))
theorem src_cob (h1:tabB t=true) (h2:shiftB (t.length:Int) m g=true):tabR t.length (cbF t m (srcN t m (tabR t.length (cbF t m g)) t.length))=tabR t.length (cbF t m g):=by
 obtain ⟨r,hr,hr2,hv⟩:=src_val h1 h2
 obtain ⟨m1,m2,m3,hg⟩:=shiftB_of h2
 refine tabR_ext fun x y hx hy=>?_
 have q:=cb_in h1 h2 x y hx hy
 have lz:((t.getD x []).getD y 0).toNat<t.length:=by omega
 have ry:=hg (r y) (by have:=(hr y).1;omega)
 have e:=hr2 x y hx hy
 rw [show en t x y=(t.getD x []).getD y 0 from rfl] at e
 show ((srcN t m (tabR t.length (cbF t m g)) t.length).getD ((t.getD x []).getD y 0).toNat 0 - (srcN t m (tabR t.length (cbF t m g)) t.length).getD y 0+m).tmod m=(g.getD ((t.getD x []).getD y 0).toNat 0 - g.getD y 0+m).tmod m
 rw [hv y hy,hv _ lz,e]
 have k:=md_sub (m:=m) (p:=g.getD (r y) 0) (q:=g.getD y 0) (r:=g.getD y 0) ry.1 q.2.2.2.2.2.2.2.2.1 q.2.2.2.2.2.2.2.2.1 ry.2 q.2.2.2.2.2.2.2.2.2 q.2.2.2.2.2.2.2.2.2 m1
 have a:=md_in (m:=m) q.2.2.2.2.2.2.1 ry.1 ry.2 m1
 have b:=md_in (m:=m) q.2.2.2.2.2.2.2.2.1 ry.1 ry.2 m1
 rw [md_e (x:=(g.getD ((t.getD x []).getD y 0).toNat 0 - g.getD (r y) 0+m).tmod m - (g.getD y 0 - g.getD (r y) 0+m).tmod m+m) (by omega),Int.add_emod_right,
  md_e (x:=g.getD ((t.getD x []).getD y 0).toNat 0 - g.getD (r y) 0+m) (by omega),md_e (x:=g.getD y 0 - g.getD (r y) 0+m) (by omega),md_e (x:=g.getD ((t.getD x []).getD y 0).toNat 0 - g.getD y 0+m) (by omega),←Int.sub_emod,Int.add_emod_right]
 congr 1
 omega
theorem csC_cob (h1:tabB t=true) (h2:shiftB (t.length:Int) m g=true):csC t m (tabR t.length (cbF t m g))=(srcN t m (tabR t.length (cbF t m g)) t.length,0):=by
 rw [csC,if_pos h1,if_pos (cb_mat h1 h2),if_pos (src_cob h1 h2)]
theorem src_low (h1:tabB t=true) (h2:shiftB (t.length:Int) m g=true) (i:Nat) (hi:i<t.length) (he:∀j,j<i→(srcN t m (tabR t.length (cbF t m g)) t.length).getD j 0=g.getD j 0) :
  (srcN t m (tabR t.length (cbF t m g)) t.length).getD i 0≤g.getD i 0:=by
 obtain ⟨r,hr,hr2,hv⟩:=src_val h1 h2
 obtain ⟨m1,m2,m3,hg⟩:=shiftB_of h2
 have gi:=hg i (by omega)
 have ri:=hr i
 rw [hv i hi]
 by_cases e:r i=i
 ·rw [e,show g.getD i 0 - g.getD i 0+m=m by omega,Int.tmod_self];exact gi.1
 ·have k:=he (r i) (by omega)
  rw [hv (r i) (by omega),ri.2,show g.getD (r i) 0 - g.getD (r i) 0+m=m by omega,Int.tmod_self] at k
  rw [←k,Int.sub_zero,md_e (by omega),Int.add_emod_right,Int.emod_eq_of_lt (by omega) (by omega)];exact Int.le_refl _
theorem cob_rc (hr:rackB t=true) (h2:shiftB (t.length:Int) m g=true):(rcF t m (tabR t.length (cbF t m g))).isNone=true:=by
 have h1:=rackB_tab hr
 have hr2:=hr
 simp only [rackB,Bool.and_eq_true] at hr2
 have k:=rk_none.1 hr2.2
 obtain ⟨m1,m2,m3,hg⟩:=shiftB_of h2
 obtain ⟨n1,n2,ht⟩:=tabB_of h1
 have en_lt:∀x y,x<t.length→y<t.length→(en t x y).toNat<t.length:=fun x y hx hy=>by have:=(ht x hx).2 y hy;unfold en;omega
 refine rc_none.2 fun x hx y hy z hz=>?_
 have a:=en_lt y z hy hz
 have b:=en_lt x z hx hz
 have c:=en_lt x y hx hy
 have d:=en_lt x (en t y z).toNat hx a
 have gz:=hg z (by omega)
 have ga:=hg (en t y z).toNat (by omega)
 have gb:=hg (en t x z).toNat (by omega)
 have gd:=hg (en t x (en t y z).toNat).toNat (by omega)
 rw [en_cb y z hy hz,en_cb x _ hx a,en_cb x z hx hz,en_cb _ _ c b,←k x hx y hy z hz,md_add ga.1 gd.1 gz.1 ga.2 gd.2 gz.2 m1,md_add gb.1 gd.1 gz.1 gb.2 gd.2 gz.2 m1]
theorem cy_none {t:List (List Int)}:(cyF t).isNone=true↔∀x,x<t.length→∀y,y<t.length→∀z,z<t.length→en t (en t x y).toNat (en t x z).toNat=en t (en t y x).toNat (en t y z).toNat:=by
 rw [Option.isNone_iff_eq_none,cyF,fo_none']
 refine forall_congr' fun x=>forall_congr' fun _=>?_
 rw [cyX,fo_none']
 refine forall_congr' fun y=>forall_congr' fun _=>?_
 rw [cyY,fo_none']
 refine forall_congr' fun z=>forall_congr' fun _=>?_
 unfold cyZ
 constructor
 ·intro h
  split at h
  ·assumption
  ·cases h
 ·intro h
  rw [if_pos h]
theorem cc_none {t:List (List Int)} {m:Int} {f:List (List Int)}:(ccF t m f).isNone=true↔∀x,x<t.length→∀y,y<t.length→∀z,z<t.length→(en f x z+en f (en t x y).toNat (en t x z).toNat).tmod m=(en f y z+en f (en t y x).toNat (en t y z).toNat).tmod m:=by
 rw [Option.isNone_iff_eq_none,ccF,fo_none']
 refine forall_congr' fun x=>forall_congr' fun _=>?_
 rw [ccX,fo_none']
 refine forall_congr' fun y=>forall_congr' fun _=>?_
 rw [ccY,fo_none']
 refine forall_congr' fun z=>forall_congr' fun _=>?_
 unfold ccZ
 constructor
 ·intro h
  split at h
  ·assumption
  ·cases h
 ·intro h
  rw [if_pos h]
theorem cob_cc (hc:cycB t=true) (h2:shiftB (t.length:Int) m g=true):(ccF t m (tabR t.length (cbF t m g))).isNone=true:=by
 have h1:=cycB_tab hc
 have hr2:=hc
 simp only [cycB,Bool.and_eq_true] at hr2
 have k:=cy_none.1 hr2.2
 obtain ⟨m1,m2,m3,hg⟩:=shiftB_of h2
 obtain ⟨n1,n2,ht⟩:=tabB_of h1
 have en_lt:∀x y,x<t.length→y<t.length→(en t x y).toNat<t.length:=fun x y hx hy=>by have:=(ht x hx).2 y hy;unfold en;omega
 refine cc_none.2 fun x hx y hy z hz=>?_
 have a:=en_lt y z hy hz
 have b:=en_lt x z hx hz
 have c:=en_lt x y hx hy
 have c':=en_lt y x hy hx
 have d:=en_lt _ _ c b
 have gz:=hg z (by omega)
 have ga:=hg (en t y z).toNat (by omega)
 have gb:=hg (en t x z).toNat (by omega)
 have gd:=hg (en t (en t x y).toNat (en t x z).toNat).toNat (by omega)
 rw [en_cb y z hy hz,en_cb x z hx hz,en_cb _ _ c b,en_cb _ _ c' a,←k x hx y hy z hz,md_add ga.1 gd.1 gz.1 ga.2 gd.2 gz.2 m1,md_add gb.1 gd.1 gz.1 gb.2 gd.2 gz.2 m1]
end
end Go.Sx
