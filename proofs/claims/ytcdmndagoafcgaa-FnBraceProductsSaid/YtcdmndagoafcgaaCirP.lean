/- CirP -/
import Derived.Test.YtcdmndagoafcgaaMapA
import Derived.Test.YtcdmndagoafcgaaDrawY
open Go Go.Proofs
namespace Go.Sx
set_option linter.unusedSimpArgs false
set_option linter.unusedVariables false
/- Permutations of n elements that are closed. -/
structure AuOk (n:Nat) (A:List (List Int)):Prop where
 pos:1≤A.length
 len:∀i,i<A.length→(A.getD i []).length=n
 rng:∀i x,i<A.length→x<n→0≤en A i x∧en A i x<(n:Int)
 cl:∀i j,i<A.length→j<A.length→thL (A.getD i []) (A.getD j [])∈A
def cmI (A:List (List Int)) (i j:Int):Nat:=idK A (thL (A.getD i.toNat []) (A.getD j.toNat []))
structure KOk (n m:Nat) (K:List Int):Prop where
 len:K.length=n
 rng:∀x,x<n→-1≤K.getD x 0∧K.getD x 0<(m:Int)
theorem KOk.set {n m:Nat} {K:List Int} (h:KOk n m K) (z:Nat) {w:Int} (hw:-1≤w∧w<(m:Int)):KOk n m (K.set z w) where
 len:=by rw [List.length_set];exact h.len
 rng x hx:=by
  rw [getD_set _ _ _ _ (by rw [h.len];exact hx)]
  split
  ·exact hw
  ·exact h.rng x hx
def ngL (K:List Int):Nat:=K.countP fun x=>decide (x<0)
theorem ngL_set {K:List Int} {z:Nat} {w:Int} (hz:z<K.length) (h:K.getD z 0<0) (hw:0≤w):ngL (K.set z w)+1=ngL K:=by
 unfold ngL
 induction K generalizing z with
 | nil=>simp at hz
 | cons k K ih =>
  cases z with
  | zero =>
   have h:k<0:=h
   have hw':¬ w<0:=by omega
   simp [h,hw']
  | succ z =>
   have:=ih (z:=z) (by simpa using hz) h
   simp only [List.set_cons_succ,List.countP_cons]
   omega
theorem ngL_le (K:List Int):ngL K≤K.length:=List.countP_le_length
def zzF (t A:List (List Int)) (o:List Int) (x y:Nat):Nat:=(en t x (en A (o.getD x 0).toNat y).toNat).toNat
def wwF (A:List (List Int)) (o:List Int) (x y:Nat):Int:=(cmI A (o.getD y 0) (o.getD x 0):Int)
def spS (t A:List (List Int)) (o:List Int) (x y:Nat):Option (List Int) :=
 if o.getD x 0<0∨o.getD y 0<0 then some o
 else if o.getD (zzF t A o x y) 0<0 then some (o.set (zzF t A o x y) (wwF A o x y))
 else if o.getD (zzF t A o x y) 0=wwF A o x y then some o else none
def spY (t A:List (List Int)) (o:List Int) (x:Nat):Nat→Option (List Int)
 | 0=>some o
 | y+1=>(spY t A o x y).bind fun o'=>spS t A o' x y
def spX (t A:List (List Int)) (o:List Int):Nat→Option (List Int)
 | 0=>some o
 | x+1=>(spX t A o x).bind fun o'=>spY t A o' x t.length
def spF (t A:List (List Int)):Nat→List Int→Option (List Int)
 | 0,o=>some o
 | fu+1,o=>match spX t A o t.length with
  | none=>none
  | some o'=>if ngL o'<ngL o then spF t A fu o' else some o'
def spR (t A:List (List Int)) (K:List Int):Option (List Int):=spF t A (t.length+1) K
section
variable {n:Nat} {t A:List (List Int)}
theorem ww_in (hA:AuOk n A) {o:List Int} (ho:KOk n A.length o) {x y:Nat} (hx:x<n) (hy:y<n) (h1:0≤o.getD x 0) (h2:0≤o.getD y 0):thL (A.getD (o.getD y 0).toNat []) (A.getD (o.getD x 0).toNat [])∈A∧0≤wwF A o x y∧wwF A o x y<(A.length:Int):=by
 have a:=ho.rng x hx
 have b:=ho.rng y hy
 have m:=hA.cl (o.getD y 0).toNat (o.getD x 0).toNat (by omega) (by omega)
 have:=(idK_lt m).1
 refine ⟨m,?_⟩
 unfold wwF cmI
 omega
theorem zz_in (ht:tbN n t) (hA:AuOk n A) {o:List Int} (ho:KOk n A.length o) {x y:Nat} (hx:x<n) (hy:y<n) (h1:0≤o.getD x 0):(0≤en A (o.getD x 0).toNat y∧en A (o.getD x 0).toNat y<(n:Int))∧(0≤en t x (en A (o.getD x 0).toNat y).toNat∧en t x (en A (o.getD x 0).toNat y).toNat<(n:Int))∧zzF t A o x y<n:=by
 have a:=ho.rng x hx
 have b:=hA.rng (o.getD x 0).toNat y (by omega) hy
 have c:=(ht.2 x hx).2 (en A (o.getD x 0).toNat y).toNat (by omega)
 refine ⟨b,c,?_⟩
 unfold zzF
 omega
theorem spS_ok (ht:tbN n t) (hA:AuOk n A) {o o':List Int} (ho:KOk n A.length o) {x y:Nat} (hx:x<n) (hy:y<n) (h:spS t A o x y=some o'):KOk n A.length o'∧ngL o'≤ngL o:=by
 unfold spS at h
 split at h
 ·cases h;exact ⟨ho,Nat.le_refl _⟩
 ·rename_i hn
  have h1:0≤o.getD x 0:=by omega
  have h2:0≤o.getD y 0:=by omega
  have w:=ww_in hA ho hx hy h1 h2
  have z:=zz_in ht hA ho hx hy h1
  split at h
  ·rename_i hz
   cases h
   have:=ngL_set (K:=o) (z:=zzF t A o x y) (by rw [ho.len];exact z.2.2) hz w.2.1
   exact ⟨ho.set _ ⟨by omega,w.2.2⟩,by omega⟩
  ·split at h
   ·cases h;exact ⟨ho,Nat.le_refl _⟩
   ·cases h
theorem spY_ok (ht:tbN n t) (hA:AuOk n A) {o:List Int} (ho:KOk n A.length o) {x:Nat} (hx:x<n):∀(y:Nat) {o':List Int},y≤n→spY t A o x y=some o'→KOk n A.length o'∧ngL o'≤ngL o
 | 0,o',_,h=>by cases h;exact ⟨ho,Nat.le_refl _⟩
 | y+1,o',hy,h=>by
  rw [spY] at h
  obtain ⟨o1,h1,h2⟩:=Option.bind_eq_some_iff.1 h
  have a:=spY_ok ht hA ho hx y (by omega) h1
  have b:=spS_ok ht hA a.1 hx (by omega) h2
  exact ⟨b.1,by omega⟩
theorem spX_ok (ht:tbN n t) (hA:AuOk n A) {o:List Int} (ho:KOk n A.length o):∀(x:Nat) {o':List Int},x≤n→spX t A o x=some o'→KOk n A.length o'∧ngL o'≤ngL o
 | 0,o',_,h=>by cases h;exact ⟨ho,Nat.le_refl _⟩
 | x+1,o',hx,h=>by
  rw [spX] at h
  obtain ⟨o1,h1,h2⟩:=Option.bind_eq_some_iff.1 h
  have a:=spX_ok ht hA ho x (by omega) h1
  have b:=spY_ok ht hA a.1 (by omega) t.length (by rw [ht.1];exact Nat.le_refl _) h2
  exact ⟨b.1,by omega⟩
theorem spF_ok (ht:tbN n t) (hA:AuOk n A):∀(fu:Nat) {o o':List Int},KOk n A.length o→spF t A fu o=some o'→KOk n A.length o'∧ngL o'≤ngL o
 | 0,o,o',ho,h=>by cases h;exact ⟨ho,Nat.le_refl _⟩
 | fu+1,o,o',ho,h=>by
  rw [spF] at h
  split at h
  ·cases h
  ·rename_i o1 h1
   have a:=spX_ok ht hA ho t.length (by rw [ht.1];exact Nat.le_refl _) h1
   split at h
   ·have b:=spF_ok ht hA fu a.1 h
    exact ⟨b.1,by omega⟩
   ·cases h;exact a
end
/- The order of tables, and the list of circles. -/
def lexR:List (List Int)→List (List Int)→Bool
 | x::a,y::b=>if x=y then lexR a b else lexB x y
 | _,_=>false
def psC (c:List (List Int)):List (List (List Int))→Nat
 | []=>0
 | k::K=>if lexR k c=true then psC c K+1 else 0
theorem psC_le (c:List (List Int)):∀K,psC c K≤K.length
 | []=>Nat.le_refl _
 | k::K=>by
  rw [psC]
  split
  ·exact Nat.succ_le_succ (psC_le c K)
  ·exact Nat.zero_le _
theorem psC_from (c:List (List Int)):∀(K:List (List (List Int))) (i:Nat),(∀j,j<i→lexR (K.getD j []) c=true)→i≤K.length→(∀h:i<K.length,lexR (K.getD i []) c=false)→psC c K=i
 | [],i,_,h,_=>by simp at h;subst h;rfl
 | k::K,0,_,_,h=>by
  have:=h (by simp)
  have h2:lexR k c=false:=this
  rw [psC,if_neg (by rw [h2];simp)]
 | k::K,i+1,a,b,d=>by
  have h0:lexR k c=true:=a 0 (by omega)
  rw [psC,if_pos h0,psC_from c K i (fun j hj=>a (j+1) (by omega)) (by simpa using b) (fun h=>d (by simpa using h))]
def insC (out:List (List (List Int))) (c:List (List Int)):List (List (List Int)):=out.take (psC c out)++c::out.drop (psC c out)
theorem insC_len (out:List (List (List Int))) (c:List (List Int)):(insC out c).length=out.length+1:=by
 have:=psC_le c out
 simp [insC];omega
theorem insC_mem (out:List (List (List Int))) (c x:List (List Int)):x∈insC out c↔x=c∨x∈out:=by
 have h1:(insC out c).Perm (c::(out.take (psC c out)++out.drop (psC c out))):=List.perm_middle
 rw [List.take_append_drop] at h1
 rw [h1.mem_iff,List.mem_cons]
def psN:List Int→Nat
 | []=>0
 | k::K=>if 0≤k then psN K+1 else 0
theorem psN_le:∀K,psN K≤K.length
 | []=>Nat.le_refl _
 | k::K=>by
  rw [psN]
  split
  ·exact Nat.succ_le_succ (psN_le K)
  ·exact Nat.zero_le _
theorem psN_from:∀(K:List Int) (i:Nat),(∀j,j<i→0≤K.getD j 0)→i≤K.length→(∀h:i<K.length,K.getD i 0<0)→psN K=i
 | [],i,_,h,_=>by simp at h;subst h;rfl
 | k::K,0,_,_,h=>by
  have h2:k<0:=h (by simp)
  rw [psN,if_neg (by omega)]
 | k::K,i+1,a,b,d=>by
  have h0:0≤k:=a 0 (by omega)
  rw [psN,if_pos h0,psN_from K i (fun j hj=>a (j+1) (by omega)) (by simpa using b) (fun h=>d (by simpa using h))]
theorem psN_lt:∀(K:List Int),psN K<K.length→K.getD (psN K) 0<0
 | [],h=>by simp at h
 | k::K,h=>by
  rw [psN] at h ⊢
  split
  ·rename_i q
   rw [if_pos q] at h
   exact psN_lt K (by simpa using h)
  ·rename_i q
   show k<0
   omega
theorem psN_all:∀(K:List Int),psN K=K.length→∀j,j<K.length→0≤K.getD j 0
 | [],_,j,h=>by simp at h
 | k::K,h,j,hj=>by
  rw [psN] at h
  split at h
  ·rename_i q
   cases j with
   | zero=>exact q
   | succ j=>exact psN_all K (by simpa using h) j (by simpa using hj)
  ·simp at h
def cirT (t A:List (List Int)) (K:List Int):List (List Int):=(List.range t.length).map fun y=>thL (A.getD (K.getD y 0).toNat []) (t.getD y [])
def srI (g:Nat→List (List (List Int))→List (List (List Int))) (out:List (List (List Int))):Nat→List (List (List Int))
 | 0=>out
 | i+1=>g i (srI g out i)
def srG (t A:List (List Int)) (rec:List Int→List (List (List Int))→List (List (List Int))) (K:List Int) (i:Nat) (o:List (List (List Int))):List (List (List Int)) :=
 match spR t A (K.set (psN K) (i:Int)) with
 | none=>o
 | some K'=>rec K' o
def srF (t A:List (List Int)):Nat→List Int→List (List (List Int))→List (List (List Int))
 | 0,_,out=>out
 | d+1,K,out=>if psN K=K.length then insC out (cirT t A K) else srI (srG t A (srF t A d) K) out A.length
theorem srI_all {P:List (List (List Int))→Prop} {g:Nat→List (List (List Int))→List (List (List Int))} {out:List (List (List Int))} (h0:P out):∀m,(∀i o,i<m→P o→P (g i o))→P (srI g out m)
 | 0,_=>h0
 | m+1,hg=>hg m _ (by omega) (srI_all h0 m fun i o hi=>hg i o (by omega))
section
variable {n:Nat} {t A:List (List Int)}
theorem ng_set {K:List Int} (hx:psN K<K.length) {i:Nat}:ngL (K.set (psN K) (i:Int))+1=ngL K:=ngL_set hx (psN_lt K hx) (by omega)
theorem spR_ng (ht:tbN n t) (hA:AuOk n A) {K K':List Int} (hK:KOk n A.length K) (hx:psN K<K.length) {i:Nat} (hi:i<A.length) (h:spR t A (K.set (psN K) (i:Int))=some K'):KOk n A.length K'∧ngL K'+1≤ngL K:=by
 have a:=spF_ok ht hA _ (hK.set (psN K) (w:=(i:Int)) ⟨by omega,by omega⟩) h
 have:=ng_set hx (i:=i)
 exact ⟨a.1,by omega⟩
theorem srF_mem (ht:tbN n t) (hA:AuOk n A) {Q:List (List Int)→Prop} (hQ:∀K,KOk n A.length K→psN K=K.length→Q (cirT t A K)):∀(d:Nat) (K:List Int) (out:List (List (List Int))),KOk n A.length K→(∀c,c∈out→Q c)→∀c,c∈srF t A d K out→Q c
 | 0,K,out,_,ho=>ho
 | d+1,K,out,hK,ho=>by
  rw [srF]
  split
  ·rename_i h
   intro c hc
   rcases (insC_mem _ _ _).1 hc with rfl | hc
   ·exact hQ K hK h
   ·exact ho c hc
  ·rename_i h
   have hx:psN K<K.length:=by have:=psN_le K;omega
   refine srI_all (P:=fun o=>∀c,c∈o→Q c) ho A.length fun i o hi hP=>?_
   unfold srG
   split
   ·exact hP
   ·rename_i K' hs
    exact srF_mem ht hA hQ d K' o (spR_ng ht hA hK hx hi hs).1 hP
theorem srI_len {c:Nat} {g:Nat→List (List (List Int))→List (List (List Int))} {out:List (List (List Int))}:∀m,(∀i o,i<m→(g i o).length≤o.length+c)→(srI g out m).length≤out.length+m * c
 | 0,_=>by simp [srI]
 | m+1,hg=>by
  have a:=srI_len (g:=g) (out:=out) (c:=c) m fun i o hi=>hg i o (by omega)
  have b:=hg m (srI g out m) (by omega)
  rw [srI,Nat.succ_mul];omega
theorem srF_len (ht:tbN n t) (hA:AuOk n A) {M:Nat} (hM:A.length≤M) (h1:1≤M):∀(d:Nat) (K:List Int) (out:List (List (List Int))),KOk n A.length K→(srF t A d K out).length≤out.length+M ^ ngL K
 | 0,K,out,_=>by rw [srF];omega
 | d+1,K,out,hK=>by
  rw [srF]
  split
  ·have:=Nat.one_le_pow (ngL K) M h1
   rw [insC_len];omega
  ·rename_i h
   have hx:psN K<K.length:=by have:=psN_le K;omega
   have hp:1≤ngL K:=by have:=ng_set hx (i:=0);omega
   have:=srI_len (g:=srG t A (srF t A d) K) (out:=out) (c:=M ^ (ngL K - 1)) A.length fun i o hi=>by
    unfold srG
    split
    ·omega
    ·rename_i K' hs
     have q:=spR_ng ht hA hK hx hi hs
     have a:=srF_len ht hA hM h1 d K' o q.1
     have b:M ^ ngL K'≤M ^ (ngL K - 1):=Nat.pow_le_pow_right h1 (by omega)
     omega
   have e:M ^ ngL K=M ^ (ngL K - 1) * M:=by rw [←Nat.pow_succ];congr 1;omega
   have f:A.length * M ^ (ngL K - 1)≤M ^ (ngL K - 1) * M:=by rw [Nat.mul_comm];exact Nat.mul_le_mul_left _ hM
   omega
theorem srF_ge:∀(d:Nat) (K:List Int) (out:List (List (List Int))),out.length≤(srF t A d K out).length
 | 0,K,out=>Nat.le_refl _
 | d+1,K,out=>by
  rw [srF]
  split
  ·rw [insC_len];omega
  ·refine srI_all (P:=fun o=>out.length≤o.length) (Nat.le_refl _) A.length fun i o _ hP=>?_
   unfold srG
   split
   ·exact hP
   ·exact Nat.le_trans hP (srF_ge d _ o)
def Z0 (n:Nat) (o:List Int):Prop:=o.length=n∧∀x,x<n→o.getD x 0=-1∨o.getD x 0=0
theorem Z0.ok {o:List Int} (z:Z0 n o) (hA:AuOk n A):KOk n A.length o:=⟨z.1,fun x hx=>by
 have:=hA.pos
 rcases z.2 x hx with h | h <;> omega⟩
theorem Z0.set {o:List Int} (z:Z0 n o) (q:Nat):Z0 n (o.set q 0):=⟨by rw [List.length_set];exact z.1,fun x hx=>by
 rw [getD_set _ _ _ _ (by rw [z.1];exact hx)]
 split
 ·exact .inr rfl
 ·exact z.2 x hx⟩
theorem spS_zero (h0:cmI A 0 0=0) {o:List Int} (hz:Z0 n o) (x y:Nat):∃o',spS t A o x y=some o'∧Z0 n o':=by
 unfold spS
 by_cases c:o.getD x 0<0∨o.getD y 0<0
 ·rw [if_pos c];exact ⟨o,rfl,hz⟩
 ·rw [if_neg c]
  have e:∀x,¬ o.getD x 0<0→o.getD x 0=0:=fun x h=>by
   by_cases q:x<n
   ·rcases hz.2 x q with r | r <;> omega
   ·rw [List.getD_eq_getElem?_getD,List.getElem?_eq_none (by have:=hz.1;omega)];rfl
  have w:wwF A o x y=0:=by
   unfold wwF
   rw [e x (fun q=>c (.inl q)),e y (fun q=>c (.inr q)),h0];rfl
  rw [w]
  by_cases z:o.getD (zzF t A o x y) 0<0
  ·rw [if_pos z];exact ⟨_,rfl,hz.set _⟩
  ·rw [if_neg z,if_pos (e _ z)];exact ⟨o,rfl,hz⟩
theorem spY_zero (h0:cmI A 0 0=0) {o:List Int} (hz:Z0 n o) (x:Nat):∀y,∃o',spY t A o x y=some o'∧Z0 n o'
 | 0=>⟨o,rfl,hz⟩
 | y+1=>by
  obtain ⟨o1,h1,z1⟩:=spY_zero h0 hz x y
  obtain ⟨o2,h2,z2⟩:=spS_zero (t:=t) h0 z1 x y
  exact ⟨o2,by rw [spY,h1];exact h2,z2⟩
theorem spX_zero (h0:cmI A 0 0=0) {o:List Int} (hz:Z0 n o):∀x,∃o',spX t A o x=some o'∧Z0 n o'
 | 0=>⟨o,rfl,hz⟩
 | x+1=>by
  obtain ⟨o1,h1,z1⟩:=spX_zero h0 hz x
  obtain ⟨o2,h2,z2⟩:=spY_zero (t:=t) h0 z1 x t.length
  exact ⟨o2,by rw [spX,h1];exact h2,z2⟩
theorem spF_zero (h0:cmI A 0 0=0):∀(fu:Nat) {o:List Int},Z0 n o→∃o',spF t A fu o=some o'∧Z0 n o'
 | 0,o,hz=>⟨o,rfl,hz⟩
 | fu+1,o,hz=>by
  obtain ⟨o1,h1,z1⟩:=spX_zero (t:=t) h0 hz t.length
  rw [spF,h1]
  simp only
  split
  ·exact spF_zero h0 fu z1
  ·exact ⟨o1,rfl,z1⟩
theorem srF_zero (ht:tbN n t) (hA:AuOk n A) (h0:cmI A 0 0=0):∀(d:Nat) (K:List Int) (out:List (List (List Int))),Z0 n K→ngL K<d→1≤(srF t A d K out).length
 | 0,K,out,_,h=>by omega
 | d+1,K,out,hz,hd=>by
  rw [srF]
  split
  ·rw [insC_len];omega
  ·rename_i h
   have hx:psN K<K.length:=by have:=psN_le K;omega
   have key:∀m,1≤m→m≤A.length→1≤(srI (srG t A (srF t A d) K) out m).length:=fun m=>by
    induction m with
    | zero=>intro h;omega
    | succ m ih =>
     intro _ hm
     rw [srI]
     by_cases q:m=0
     ·subst q
      unfold srG
      obtain ⟨K',h1,z1⟩:=spF_zero (t:=t) h0 (t.length+1) (hz.set (psN K))
      have h1:spR t A (K.set (psN K) ((0:Nat):Int))=some K':=h1
      rw [h1]
      have:=spR_ng ht hA (hz.ok hA) hx (i:=0) (by omega) h1
      exact srF_zero ht hA h0 d K' _ z1 (by omega)
     ·have:=ih (by omega) (by omega)
      unfold srG
      split
      ·exact this
      ·exact Nat.le_trans this (srF_ge d _ _)
   exact key A.length hA.pos (Nat.le_refl _)
end
def cirF (t A:List (List Int)):List (List (List Int)):=srF t A 12 ((List.replicate t.length (-1)).set 0 0) []
theorem k0_zero {n:Nat}:Z0 n ((List.replicate n (-1)).set 0 0):=by
 have z:Z0 n (List.replicate n (-1)):=⟨by simp,fun x hx=>.inl (by simp [List.getD_eq_getElem?_getD,hx])⟩
 exact z.set 0
theorem k0_ng {n:Nat} (h:1≤n):ngL ((List.replicate n (-1)).set 0 0)+1=n:=by
 rw [ngL_set (by simp;omega) (by simp [List.getD_eq_getElem?_getD,show 0<n by omega]) (by omega)]
 simp [ngL,List.countP_replicate]
theorem cirF_ok {n:Nat} {t A:List (List Int)} (ht:tbN n t) (hn:1≤n) (hn2:n≤12) (hA:AuOk n A) (h0:cmI A 0 0=0):1≤(cirF t A).length∧∀c,c∈cirF t A→tbN n c:=by
 have e:t.length=n:=ht.1
 refine ⟨srF_zero ht hA h0 _ _ _ (by rw [e];exact k0_zero) (by have:=k0_ng hn;rw [e];omega),?_⟩
 refine srF_mem ht hA (Q:=tbN n) (fun K hK hp=>?_) 12 _ [] (Z0.ok (by rw [e];exact k0_zero) hA) (fun c hc=>by simp at hc)
 refine ⟨by simp [cirT,e],fun x hx=>?_⟩
 have hk:=psN_all K hp x (by rw [hK.len];exact hx)
 have hr:=hK.rng x hx
 have row:(cirT t A K).getD x []=thL (A.getD (K.getD x 0).toNat []) (t.getD x []):=by
  rw [cirT];simp [List.getD_eq_getElem?_getD,e,hx]
 have L:=hA.len (K.getD x 0).toNat (by omega)
 refine ⟨by rw [row,thL,List.length_map,L],fun y hy=>?_⟩
 have r:=hA.rng (K.getD x 0).toNat y (by omega) hy
 have v:=(ht.2 x hx).2 (en A (K.getD x 0).toNat y).toNat (by omega)
 have:en (cirT t A K) x y=en t x (en A (K.getD x 0).toNat y).toNat:=by
  unfold en at *
  rw [row,thL,getD_map _ _ 0 0 _ (by omega)]
 rw [this];exact v
end Go.Sx
