/- CirP -/
import Derived.Test.YtkmldclpaniclaaRack
import Derived.Test.YtkmldclpaniclaaMapD
import Derived.Test.YtkmldclpaniclaaMapA
open Go Go.Proofs
namespace Go.Sx
set_option linter.unusedSimpArgs false
set_option linter.unusedVariables false
def ba (p q:List Int):List Int:=p.map fun x=>q.getD x.toNat 0
def lv (n:Nat) (p:List Int):Prop:=∀i,i<p.length→0≤p.getD i 0∧p.getD i 0<(n:Int)
def oP (p:List Int) (q:List Int):Post:=⟨ag p.length∧lv q.length p,.c (.ints 2 .i64 (ba p q)),[]⟩
def oQ:List AD→Option Post
 | [.c (.ints .i64 (p)),.c (.ints .i64 (q))]=>some (oP p q)
 | _=>none
def AR (p:List Int) (q:List Int):Nat→Option Ann
 | 0=>some (Ann.mk ((Nat)) (fun i=>⟨[(0,.c (.ro (.ints .i64 (p)))),(1,.c (.ro (.ints .i64 (q)))),(5,.c (.own (10))),(6,.c (.int .i64 ((i:Int))))],[(10,some (.ints 2 .i64 (ba (p.take i) q)))]⟩) (fun i=>i≤p.length) (fun i=>p.length - i) (fun _=>ax))
 | _=>none
def AS:List (Nat×Ctr):=[]
def tO (p:List Int) (q:List Int):Prop :=
 ((∃x0:Nat,((x0≤p.length)∧((p=p)∧((q=q)∧(((0:Int)=(↑x0:Int))∧([]=ba (List.take x0 p) q))))))∧(∀x1:Nat,((x1≤p.length)→(ae (decide ((↑x1:Int)<(↑(p.length):Int))) ((aa (↑x1:Int) (p.length))∧((aa (p.getD ((↑x1:Int).toNat) (0:Int)) (q.length))∧((ag ((ba (List.take x1 p) q).length+[q.getD ((p.getD ((↑x1:Int).toNat) (0:Int)).toNat) (0:Int)].length))∧((af ((↑x1:Int)+(1:Int)))∧(∃x2:Nat,((x2≤p.length)∧((p.length - x2<p.length - x1)∧((p=p)∧((q=q)∧(((↑x1:Int)+(1:Int)=(↑x2:Int))∧(ba (List.take x1 p) q++[q.getD ((p.getD ((↑x1:Int).toNat) (0:Int)).toNat) (0:Int)]=ba (List.take x2 p) q))))))))))) ((ba (List.take x1 p) q=ba p q)∧True)))))
theorem HU (p:List Int) (q:List Int):aS Try.prog (ai AS) aj (AR p q) Try.f22 (aM Try.f22) [] [.c (.ints .i64 (p)),.c (.ints .i64 (q))] (oP p q)=tO p q:=by kernel_rfl
theorem HV (p:List Int) (q:List Int) (Yh:(oP p q).pre):tO p q:=by
 simp only [oP,tO,aR,u1,u2,u3,u4,u5,u6,u7,u8,u9,v1,v2,v3,v4,v5,v6,v7,v8,v9,w1,w2,w3,w4,aI,aa,af,ag,aw] at Yh ⊢;obtain ⟨h1,h2⟩:=Yh;refine ⟨⟨0,by omega,rfl,rfl⟩,fun i hi=>⟨fun h=>?_,fun h=>?_⟩⟩
 ·have hr:=h2 i (by omega)
  have hl:(ba (p.take i) q).length=i:=by rw [ba,List.length_map,List.length_take];omega
  refine ⟨by omega,by omega,by omega,by omega,i+1,by omega,by omega,by omega,?_⟩
  rw [←dK p 0 i (by omega),ba,ba,List.map_append];rfl
 ·rw [List.take_of_length_le (by omega)]
theorem AT:Fits Try.prog 22 ⟨[],oQ⟩:=by
 refine aY (Γ:=ai AS) aQ Try.func22 fun ds p h hp=>?_
 unfold oQ at h;split at h
 ·cases h
  exact ⟨aj,AR _ _ ,by rw [HU];exact HV _ _  hp⟩
 ·cases h
/- Permutations of n elements that are closed. -/
structure AuOk (n:Nat) (A:List (List Int)):Prop where
 pos:1≤A.length
 len:∀i,i<A.length→(A.getD i []).length=n
 rng:∀i x,i<A.length→x<n→0≤en A i x∧en A i x<(n:Int)
 cl:∀i j,i<A.length→j<A.length→ba (A.getD i []) (A.getD j [])∈A
def fB (A:List (List Int)) (i j:Int):Nat:=du A (ba (A.getD i.toNat []) (A.getD j.toNat []))
structure KOk (n m:Nat) (K:List Int):Prop where
 len:K.length=n
 rng:∀x,x<n→-1≤K.getD x 0∧K.getD x 0<(m:Int)
theorem KOk.set {n m:Nat} {K:List Int} (h:KOk n m K) (z:Nat) {w:Int} (hw:-1≤w∧w<(m:Int)):KOk n m (K.set z w) where
 len:=by rw [List.length_set];exact h.len
 rng x hx:=by
  rw [iE _ _ _ _ (by rw [h.len];exact hx)]
  split
  ·exact hw
  ·exact h.rng x hx
def au (K:List Int):Nat:=K.countP fun x=>decide (x<0)
theorem mS {K:List Int} {z:Nat} {w:Int} (hz:z<K.length) (h:K.getD z 0<0) (hw:0≤w):au (K.set z w)+1=au K:=by
 unfold au
 induction K generalizing z with
 | nil=>simp at hz
 | cons k K ih =>
  cases z with
  | zero =>
   have h:k<0:=h
   have hw':¬ w<0:=by omega
   simp [h,hw']
  | succ z =>
   have:=ih (z:=z) (by simpa using hz) h
   simp only [List.set_cons_succ,List.countP_cons];omega
theorem tP (K:List Int):au K≤K.length:=List.countP_le_length
def bu (t A:List (List Int)) (o:List Int) (x y:Nat):Nat:=(en t x (en A (o.getD x 0).toNat y).toNat).toNat
def c8 (A:List (List Int)) (o:List Int) (x y:Nat):Int:=(fB A (o.getD y 0) (o.getD x 0):Int)
def eu (t A:List (List Int)) (o:List Int) (x y:Nat):Option (List Int) :=
 if o.getD x 0<0∨o.getD y 0<0 then some o
 else if o.getD (bu t A o x y) 0<0 then some (o.set (bu t A o x y) (c8 A o x y))
 else if o.getD (bu t A o x y) 0=c8 A o x y then some o else none
def cS (t A:List (List Int)) (o:List Int) (x:Nat):Nat→Option (List Int)
 | 0=>some o
 | y+1=>(cS t A o x y).bind fun o'=>eu t A o' x y
def dE (t A:List (List Int)) (o:List Int):Nat→Option (List Int)
 | 0=>some o
 | x+1=>(dE t A o x).bind fun o'=>cS t A o' x t.length
def dR (t A:List (List Int)):Nat→List Int→Option (List Int)
 | 0,o=>some o
 | fu+1,o=>match dE t A o t.length with
  | none=>none
  | some o'=>if au o'<au o then dR t A fu o' else some o'
def cD (t A:List (List Int)) (K:List Int):Option (List Int):=dR t A (t.length+1) K
section
variable {n:Nat} {t A:List (List Int)}
theorem lw (hA:AuOk n A) {o:List Int} (ho:KOk n A.length o) {x y:Nat} (hx:x<n) (hy:y<n) (h1:0≤o.getD x 0) (h2:0≤o.getD y 0):ba (A.getD (o.getD y 0).toNat []) (A.getD (o.getD x 0).toNat [])∈A∧0≤c8 A o x y∧c8 A o x y<(A.length:Int):=by
 have a:=ho.rng x hx
 have b:=ho.rng y hy
 have m:=hA.cl (o.getD y 0).toNat (o.getD x 0).toNat (by omega) (by omega)
 have:=(iL m).1
 refine ⟨m,?_⟩
 unfold c8 fB;omega
theorem jP (ht:bi n t) (hA:AuOk n A) {o:List Int} (ho:KOk n A.length o) {x y:Nat} (hx:x<n) (hy:y<n) (h1:0≤o.getD x 0):(0≤en A (o.getD x 0).toNat y∧en A (o.getD x 0).toNat y<(n:Int))∧(0≤en t x (en A (o.getD x 0).toNat y).toNat∧en t x (en A (o.getD x 0).toNat y).toNat<(n:Int))∧bu t A o x y<n:=by
 have a:=ho.rng x hx
 have b:=hA.rng (o.getD x 0).toNat y (by omega) hy
 have c:=(ht.2 x hx).2 (en A (o.getD x 0).toNat y).toNat (by omega)
 refine ⟨b,c,?_⟩
 unfold bu;omega
theorem AU (ht:bi n t) (hA:AuOk n A) {o o':List Int} (ho:KOk n A.length o) {x y:Nat} (hx:x<n) (hy:y<n) (h:eu t A o x y=some o'):KOk n A.length o'∧au o'≤au o:=by
 unfold eu at h;split at h
 ·cases h;exact ⟨ho,Nat.le_refl _⟩
 ·rename_i hn
  have h1:0≤o.getD x 0:=by omega
  have h2:0≤o.getD y 0:=by omega
  have w:=lw hA ho hx hy h1 h2
  have z:=jP ht hA ho hx hy h1
  split at h
  ·rename_i hz
   cases h;have:=mS (K:=o) (z:=bu t A o x y) (by rw [ho.len];exact z.2.2) hz w.2.1
   exact ⟨ho.set _ ⟨by omega,w.2.2⟩,by omega⟩
  ·split at h
   ·cases h;exact ⟨ho,Nat.le_refl _⟩
   ·cases h
theorem oR (ht:bi n t) (hA:AuOk n A) {o:List Int} (ho:KOk n A.length o) {x:Nat} (hx:x<n):∀(y:Nat) {o':List Int},y≤n→cS t A o x y=some o'→KOk n A.length o'∧au o'≤au o
 | 0,o',_,h=>by cases h;exact ⟨ho,Nat.le_refl _⟩
 | y+1,o',hy,h=>by
  rw [cS] at h;obtain ⟨o1,h1,h2⟩:=Option.bind_eq_some_iff.1 h;have a:=oR ht hA ho hx y (by omega) h1
  have b:=AU ht hA a.1 hx (by omega) h2
  exact ⟨b.1,by omega⟩
theorem oS (ht:bi n t) (hA:AuOk n A) {o:List Int} (ho:KOk n A.length o):∀(x:Nat) {o':List Int},x≤n→dE t A o x=some o'→KOk n A.length o'∧au o'≤au o
 | 0,o',_,h=>by cases h;exact ⟨ho,Nat.le_refl _⟩
 | x+1,o',hx,h=>by
  rw [dE] at h;obtain ⟨o1,h1,h2⟩:=Option.bind_eq_some_iff.1 h;have a:=oS ht hA ho x (by omega) h1
  have b:=oR ht hA a.1 (by omega) t.length (by rw [ht.1];exact Nat.le_refl _) h2
  exact ⟨b.1,by omega⟩
theorem AV (ht:bi n t) (hA:AuOk n A):∀(fu:Nat) {o o':List Int},KOk n A.length o→dR t A fu o=some o'→KOk n A.length o'∧au o'≤au o
 | 0,o,o',ho,h=>by cases h;exact ⟨ho,Nat.le_refl _⟩
 | fu+1,o,o',ho,h=>by
  rw [dR] at h;split at h
  ·cases h
  ·rename_i o1 h1
   have a:=oS ht hA ho t.length (by rw [ht.1];exact Nat.le_refl _) h1
   split at h
   ·have b:=AV ht hA fu a.1 h
    exact ⟨b.1,by omega⟩
   ·cases h;exact a
end
/- The order of tables, and the list of circles. -/
def bV:List (List Int)→List (List Int)→Bool
 | x::a,y::b=>if x=y then bV a b else aW x y
 | _,_=>false
def b5 (c:List (List Int)):List (List (List Int))→Nat
 | []=>0
 | k::K=>if bV k c=true then b5 c K+1 else 0
theorem tQ (c:List (List Int)):∀K,b5 c K≤K.length
 | []=>Nat.le_refl _
 | k::K=>by
  rw [b5];split
  ·exact Nat.succ_le_succ (tQ c K)
  ·exact Nat.zero_le _
theorem tR (c:List (List Int)):∀(K:List (List (List Int))) (i:Nat),(∀j,j<i→bV (K.getD j []) c=true)→i≤K.length→(∀h:i<K.length,bV (K.getD i []) c=false)→b5 c K=i
 | [],i,_,h,_=>by simp at h;subst h;rfl
 | k::K,0,_,_,h=>by
  have:=h (by simp)
  have h2:bV k c=false:=this
  rw [b5,if_neg (by rw [h2];simp)]
 | k::K,i+1,a,b,d=>by
  have h0:bV k c=true:=a 0 (by omega)
  rw [b5,if_pos h0,tR c K i (fun j hj=>a (j+1) (by omega)) (by simpa using b) (fun h=>d (by simpa using h))]
def eA (out:List (List (List Int))) (c:List (List Int)):List (List (List Int)):=out.take (b5 c out)++c::out.drop (b5 c out)
theorem oT (out:List (List (List Int))) (c:List (List Int)):(eA out c).length=out.length+1:=by
 have:=tQ c out
 simp [eA];omega
theorem AW (out:List (List (List Int))) (c x:List (List Int)):x∈eA out c↔x=c∨x∈out:=by
 have h1:(eA out c).Perm (c::(out.take (b5 c out)++out.drop (b5 c out))):=List.perm_middle
 rw [List.take_append_drop] at h1;rw [h1.mem_iff,List.mem_cons]
def av:List Int→Nat
 | []=>0
 | k::K=>if 0≤k then av K+1 else 0
theorem jQ:∀K,av K≤K.length
 | []=>Nat.le_refl _
 | k::K=>by
  rw [av];split
  ·exact Nat.succ_le_succ (jQ K)
  ·exact Nat.zero_le _
theorem tS:∀(K:List Int) (i:Nat),(∀j,j<i→0≤K.getD j 0)→i≤K.length→(∀h:i<K.length,K.getD i 0<0)→av K=i
 | [],i,_,h,_=>by simp at h;subst h;rfl
 | k::K,0,_,_,h=>by
  have h2:k<0:=h (by simp)
  rw [av,if_neg (by omega)]
 | k::K,i+1,a,b,d=>by
  have h0:0≤k:=a 0 (by omega)
  rw [av,if_pos h0,tS K i (fun j hj=>a (j+1) (by omega)) (by simpa using b) (fun h=>d (by simpa using h))]
theorem oU:∀(K:List Int),av K<K.length→K.getD (av K) 0<0
 | [],h=>by simp at h
 | k::K,h=>by
  rw [av] at h ⊢;split
  ·rename_i q
   rw [if_pos q] at h;exact oU K (by simpa using h)
  ·rename_i q
   show k<0
   omega
theorem mT:∀(K:List Int),av K=K.length→∀j,j<K.length→0≤K.getD j 0
 | [],_,j,h=>by simp at h
 | k::K,h,j,hj=>by
  rw [av] at h;split at h
  ·rename_i q
   cases j with
   | zero=>exact q
   | succ j=>exact mT K (by simpa using h) j (by simpa using hj)
  ·simp at h
def bq (t A:List (List Int)) (K:List Int):List (List Int):=(List.range t.length).map fun y=>ba (A.getD (K.getD y 0).toNat []) (t.getD y [])
def cZ (g:Nat→List (List (List Int))→List (List (List Int))) (out:List (List (List Int))):Nat→List (List (List Int))
 | 0=>out
 | i+1=>g i (cZ g out i)
def cE (t A:List (List Int)) (rec:List Int→List (List (List Int))→List (List (List Int))) (K:List Int) (i:Nat) (o:List (List (List Int))):List (List (List Int)) :=
 match cD t A (K.set (av K) (i:Int)) with
 | none=>o
 | some K'=>rec K' o
def bR (t A:List (List Int)):Nat→List Int→List (List (List Int))→List (List (List Int))
 | 0,_,out=>out
 | d+1,K,out=>if av K=K.length then eA out (bq t A K) else cZ (cE t A (bR t A d) K) out A.length
theorem oV {P:List (List (List Int))→Prop} {g:Nat→List (List (List Int))→List (List (List Int))} {out:List (List (List Int))} (h0:P out):∀m,(∀i o,i<m→P o→P (g i o))→P (cZ g out m)
 | 0,_=>h0
 | m+1,hg=>hg m _ (by omega) (oV h0 m fun i o hi=>hg i o (by omega))
section
variable {n:Nat} {t A:List (List Int)}
theorem tT {K:List Int} (hx:av K<K.length) {i:Nat}:au (K.set (av K) (i:Int))+1=au K:=mS hx (oU K hx) (by omega)
theorem jg (ht:bi n t) (hA:AuOk n A) {K K':List Int} (hK:KOk n A.length K) (hx:av K<K.length) {i:Nat} (hi:i<A.length) (h:cD t A (K.set (av K) (i:Int))=some K'):KOk n A.length K'∧au K'+1≤au K:=by
 have a:=AV ht hA _ (hK.set (av K) (w:=(i:Int)) ⟨by omega,by omega⟩) h
 have:=tT hx (i:=i)
 exact ⟨a.1,by omega⟩
theorem tU (ht:bi n t) (hA:AuOk n A) {Q:List (List Int)→Prop} (hQ:∀K,KOk n A.length K→av K=K.length→Q (bq t A K)):∀(d:Nat) (K:List Int) (out:List (List (List Int))),KOk n A.length K→(∀c,c∈out→Q c)→∀c,c∈bR t A d K out→Q c
 | 0,K,out,_,ho=>ho
 | d+1,K,out,hK,ho=>by
  rw [bR];split
  ·rename_i h
   intro c hc
   rcases (AW _ _ _).1 hc with rfl | hc
   ·exact hQ K hK h
   ·exact ho c hc
  ·rename_i h
   have hx:av K<K.length:=by have:=jQ K;omega
   refine oV (P:=fun o=>∀c,c∈o→Q c) ho A.length fun i o hi hP=>?_
   unfold cE;split
   ·exact hP
   ·rename_i K' hs
    exact tU ht hA hQ d K' o (jg ht hA hK hx hi hs).1 hP
theorem tV {c:Nat} {g:Nat→List (List (List Int))→List (List (List Int))} {out:List (List (List Int))}:∀m,(∀i o,i<m→(g i o).length≤o.length+c)→(cZ g out m).length≤out.length+m * c
 | 0,_=>by simp [cZ]
 | m+1,hg=>by
  have a:=tV (g:=g) (out:=out) (c:=c) m fun i o hi=>hg i o (by omega)
  have b:=hg m (cZ g out m) (by omega)
  rw [cZ,Nat.succ_mul];omega
theorem AX (ht:bi n t) (hA:AuOk n A) {M:Nat} (hM:A.length≤M) (h1:1≤M):∀(d:Nat) (K:List Int) (out:List (List (List Int))),KOk n A.length K→(bR t A d K out).length≤out.length+M ^ au K
 | 0,K,out,_=>by rw [bR];omega
 | d+1,K,out,hK=>by
  rw [bR];split
  ·have:=Nat.one_le_pow (au K) M h1
   rw [oT];omega
  ·rename_i h
   have hx:av K<K.length:=by have:=jQ K;omega
   have hp:1≤au K:=by have:=tT hx (i:=0);omega
   have:=tV (g:=cE t A (bR t A d) K) (out:=out) (c:=M ^ (au K - 1)) A.length fun i o hi=>by
    unfold cE;split
    ·omega
    ·rename_i K' hs
     have q:=jg ht hA hK hx hi hs
     have a:=AX ht hA hM h1 d K' o q.1
     have b:M ^ au K'≤M ^ (au K - 1):=Nat.pow_le_pow_right h1 (by omega)
     omega
   have e:M ^ au K=M ^ (au K - 1) * M:=by rw [←Nat.pow_succ];congr 1;omega
   have f:A.length * M ^ (au K - 1)≤M ^ (au K - 1) * M:=by rw [Nat.mul_comm];exact Nat.mul_le_mul_left _ hM
   omega
theorem AY:∀(d:Nat) (K:List Int) (out:List (List (List Int))),out.length≤(bR t A d K out).length
 | 0,K,out=>Nat.le_refl _
 | d+1,K,out=>by
  rw [bR];split
  ·rw [oT];omega
  ·refine oV (P:=fun o=>out.length≤o.length) (Nat.le_refl _) A.length fun i o _ hP=>?_
   unfold cE;split
   ·exact hP
   ·exact Nat.le_trans hP (AY d _ o)
def Z0 (n:Nat) (o:List Int):Prop:=o.length=n∧∀x,x<n→o.getD x 0=-1∨o.getD x 0=0
theorem Z0.ok {o:List Int} (z:Z0 n o) (hA:AuOk n A):KOk n A.length o:=⟨z.1,fun x hx=>by
 have:=hA.pos
 rcases z.2 x hx with h | h <;> omega⟩
theorem Z0.set {o:List Int} (z:Z0 n o) (q:Nat):Z0 n (o.set q 0):=⟨by rw [List.length_set];exact z.1,fun x hx=>by
 rw [iE _ _ _ _ (by rw [z.1];exact hx)]
 split
 ·exact .inr rfl
 ·exact z.2 x hx⟩
theorem HW (h0:fB A 0 0=0) {o:List Int} (hz:Z0 n o) (x y:Nat):∃o',eu t A o x y=some o'∧Z0 n o':=by
 unfold eu;by_cases c:o.getD x 0<0∨o.getD y 0<0
 ·rw [if_pos c];exact ⟨o,rfl,hz⟩
 ·rw [if_neg c]
  have e:∀x,¬ o.getD x 0<0→o.getD x 0=0:=fun x h=>by
   by_cases q:x<n
   ·rcases hz.2 x q with r | r <;> omega
   ·rw [List.getD_eq_getElem?_getD,List.getElem?_eq_none (by have:=hz.1;omega)];rfl
  have w:c8 A o x y=0:=by
   unfold c8;rw [e x (fun q=>c (.inl q)),e y (fun q=>c (.inr q)),h0];rfl
  rw [w];by_cases z:o.getD (bu t A o x y) 0<0
  ·rw [if_pos z];exact ⟨_,rfl,hz.set _⟩
  ·rw [if_neg z,if_pos (e _ z)];exact ⟨o,rfl,hz⟩
theorem AZ (h0:fB A 0 0=0) {o:List Int} (hz:Z0 n o) (x:Nat):∀y,∃o',cS t A o x y=some o'∧Z0 n o'
 | 0=>⟨o,rfl,hz⟩
 | y+1=>by
  obtain ⟨o1,h1,z1⟩:=AZ h0 hz x y;obtain ⟨o2,h2,z2⟩:=HW (t:=t) h0 z1 x y;exact ⟨o2,by rw [cS,h1];exact h2,z2⟩
theorem A0 (h0:fB A 0 0=0) {o:List Int} (hz:Z0 n o):∀x,∃o',dE t A o x=some o'∧Z0 n o'
 | 0=>⟨o,rfl,hz⟩
 | x+1=>by
  obtain ⟨o1,h1,z1⟩:=A0 h0 hz x;obtain ⟨o2,h2,z2⟩:=AZ (t:=t) h0 z1 x t.length;exact ⟨o2,by rw [dE,h1];exact h2,z2⟩
theorem A1 (h0:fB A 0 0=0):∀(fu:Nat) {o:List Int},Z0 n o→∃o',dR t A fu o=some o'∧Z0 n o'
 | 0,o,hz=>⟨o,rfl,hz⟩
 | fu+1,o,hz=>by
  obtain ⟨o1,h1,z1⟩:=A0 (t:=t) h0 hz t.length;rw [dR,h1];simp only;split
  ·exact A1 h0 fu z1
  ·exact ⟨o1,rfl,z1⟩
theorem A2 (ht:bi n t) (hA:AuOk n A) (h0:fB A 0 0=0):∀(d:Nat) (K:List Int) (out:List (List (List Int))),Z0 n K→au K<d→1≤(bR t A d K out).length
 | 0,K,out,_,h=>by omega
 | d+1,K,out,hz,hd=>by
  rw [bR];split
  ·rw [oT];omega
  ·rename_i h
   have hx:av K<K.length:=by have:=jQ K;omega
   have key:∀m,1≤m→m≤A.length→1≤(cZ (cE t A (bR t A d) K) out m).length:=fun m=>by
    induction m with
    | zero=>intro h;omega
    | succ m ih =>
     intro _ hm
     rw [cZ];by_cases q:m=0
     ·subst q
      unfold cE;obtain ⟨K',h1,z1⟩:=A1 (t:=t) h0 (t.length+1) (hz.set (av K));have h1:cD t A (K.set (av K) ((0:Nat):Int))=some K':=h1
      rw [h1];have:=jg ht hA (hz.ok hA) hx (i:=0) (by omega) h1
      exact A2 ht hA h0 d K' _ z1 (by omega)
     ·have:=ih (by omega) (by omega)
      unfold cE;split
      ·exact this
      ·exact Nat.le_trans this (AY d _ _)
   exact key A.length hA.pos (Nat.le_refl _)
end
def eZ (t A:List (List Int)):List (List (List Int)):=bR t A 12 ((List.replicate t.length (-1)).set 0 0) []
theorem mU {n:Nat}:Z0 n ((List.replicate n (-1)).set 0 0):=by
 have z:Z0 n (List.replicate n (-1)):=⟨by simp,fun x hx=>.inl (by simp [List.getD_eq_getElem?_getD,hx])⟩
 exact z.set 0
theorem tW {n:Nat} (h:1≤n):au ((List.replicate n (-1)).set 0 0)+1=n:=by
 rw [mS (by simp;omega) (by simp [List.getD_eq_getElem?_getD,show 0<n by omega]) (by omega)]
 simp [au,List.countP_replicate]
theorem HX {n:Nat} {t A:List (List Int)} (ht:bi n t) (hn:1≤n) (hn2:n≤12) (hA:AuOk n A) (h0:fB A 0 0=0):1≤(eZ t A).length∧∀c,c∈eZ t A→bi n c:=by
 have e:t.length=n:=ht.1
 refine ⟨A2 ht hA h0 _ _ _ (by rw [e];exact mU) (by have:=tW hn;rw [e];omega),?_⟩
 refine tU ht hA (Q:=bi n) (fun K hK hp=>?_) 12 _ [] (Z0.ok (by rw [e];exact mU) hA) (fun c hc=>by simp at hc)
 refine ⟨by simp [bq,e],fun x hx=>?_⟩
 have hk:=mT K hp x (by rw [hK.len];exact hx)
 have hr:=hK.rng x hx
 have row:(bq t A K).getD x []=ba (A.getD (K.getD x 0).toNat []) (t.getD x []):=by
  rw [bq];simp [List.getD_eq_getElem?_getD,e,hx]
 have L:=hA.len (K.getD x 0).toNat (by omega)
 refine ⟨by rw [row,ba,List.length_map,L],fun y hy=>?_⟩
 have r:=hA.rng (K.getD x 0).toNat y (by omega) hy
 have v:=(ht.2 x hx).2 (en A (K.getD x 0).toNat y).toNat (by omega)
 have:en (bq t A K) x y=en t x (en A (K.getD x 0).toNat y).toNat:=by
  unfold en at *;rw [row,ba,lh _ _ 0 0 _ (by omega)]
 rw [this];exact v
end Go.Sx
