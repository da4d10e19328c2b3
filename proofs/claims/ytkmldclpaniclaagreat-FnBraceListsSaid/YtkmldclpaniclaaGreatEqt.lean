/- Eqt -/
import Derived.Test.YtkmldclpaniclaaGreatMapA
import Derived.Test.YtkmldclpaniclaaGreatDrawY
import Derived.Test.YtkmldclpaniclaaGreatOwn2
set_option linter.unusedSimpArgs false
set_option linter.unusedVariables false
set_option linter.defProp false
open Go Go.Proofs
namespace Go.Sx
/- Permutations of n elements that are closed. -/
structure AuOk (n:Nat) (A:D7):Prop where
 pos:1<=A.length
 len:∀i,i<A.length->(A.getD i []).length=n
 rng:∀i x,i<A.length->x<n->0<=en A i x/\en A i x<(n:Int)
 cl:∀i j,i<A.length->j<A.length->aR (A.getD i []) (A.getD j [])∈A
def gO(A:D7)(i j:Int):Nat:=eH A (aR (A.getD i.toNat []) (A.getD j.toNat []))
structure KOk (n m:Nat) (K:D6):Prop where
 len:K.length=n
 rng:∀x,x<n->-1<=K.getD x 0/\K.getD x 0<(m:Int)
theorem KOk.set{n m:Nat}{K:D6}(h:KOk n m K)(z:Nat){w:Int}(hw:-1<=w/\w<(m:Int)):KOk n m (K.set z w) where
 len:=by rw[Aj];exact h.len
 rng x hx:=by
  rw[jb _ _ _ _ (by rw[h.len];exact hx)]
  split
  ·exact hw
  ·exact h.rng x hx
def aB(K:D6):Nat:=K.countP λx=>decide (x<0)
def qD{K:D6}{z:Nat}{w:Int}(hz:z<K.length)(h:K.getD z 0<0)(hw:0<=w):aB (K.set z w)+1=aB K:=by
 unfold aB
 induction K generalizing z with
 |nil=>simp at hz
 |cons k K ih =>
  cases z with
  |zero =>
   have h:k<0:=h
   have hw':¬ w<0:=by omega
   simp[h,hw']
  |succ z =>
   have:=ih (z:=z) (by simpa using hz) h
   simp only[DS,CC];omega
def FN(K:D6):aB K<=K.length:=List.countP_le_length
def bW(t A:D7)(o:D6)(x y:Nat):Nat:=(en t x (en A (o.getD x 0).toNat y).toNat).toNat
def d6(A:D7)(o:D6)(x y:Nat):Int:=(gO A (o.getD y 0) (o.getD x 0):Int)
def fY(t A:D7)(o:D6)(x y:Nat):Option D6 :=
 if o.getD x 0<0\/o.getD y 0<0 then some o
 else if o.getD (bW t A o x y) 0<0 then some (o.set (bW t A o x y) (d6 A o x y))
 else if o.getD (bW t A o x y) 0=d6 A o x y then some o else none
def dT(t A:D7)(o:D6)(x:Nat):Nat->Option D6
 |0=>some o
 |y+1=>(dT t A o x y).bind λo'=>fY t A o' x y
def eS(t A:D7)(o:D6):Nat->Option D6
 |0=>some o
 |x+1=>(eS t A o x).bind λo'=>dT t A o' x t.length
def fw(t A:D7):Nat->D6->Option D6
 |0,o=>some o
 |fu+1,o=>match eS t A o t.length with
  |none=>none
  |some o'=>if aB o'<aB o then fw t A fu o' else some o'
def dr(t A:D7)(K:D6):Option D6:=fw t A (t.length+1) K
section
variable {n:Nat} {t A:D7}
def oT(hA:AuOk n A){o:D6}(ho:KOk n A.length o){x y:Nat}(hx:x<n)(hy:y<n)(h1:0<=o.getD x 0)(h2:0<=o.getD y 0):aR (A.getD (o.getD y 0).toNat []) (A.getD (o.getD x 0).toNat [])∈A/\0<=d6 A o x y/\d6 A o x y<(A.length:Int):=by
 have a:=ho.rng x hx
 have b:=ho.rng y hy
 have m:=hA.cl (o.getD y 0).toNat (o.getD x 0).toNat (by omega) (by omega)
 have:=(kP m).1
 refine⟨m,?_⟩
 unfold d6 gO;omega
def mW(ht:am n t)(hA:AuOk n A){o:D6}(ho:KOk n A.length o){x y:Nat}(hx:x<n)(hy:y<n)(h1:0<=o.getD x 0):(0<=en A (o.getD x 0).toNat y/\en A (o.getD x 0).toNat y<(n:Int))/\(0<=en t x (en A (o.getD x 0).toNat y).toNat/\en t x (en A (o.getD x 0).toNat y).toNat<(n:Int))/\bW t A o x y<n:=by
 have a:=ho.rng x hx
 have b:=hA.rng (o.getD x 0).toNat y (by omega) hy
 have c:=(ht.2 x hx).2 (en A (o.getD x 0).toNat y).toNat (by omega)
 refine⟨b,c,?_⟩
 unfold bW;omega
def N1(ht:am n t)(hA:AuOk n A){o o':D6}(ho:KOk n A.length o){x y:Nat}(hx:x<n)(hy:y<n)(h:fY t A o x y=some o'):KOk n A.length o'/\aB o'<=aB o:=by
 unfold fY at h;split at h
 ·cases h;exact⟨ho,AE _⟩
 ·rename_i hn
  have h1:0<=o.getD x 0:=by omega
  have h2:0<=o.getD y 0:=by omega
  have w:=oT hA ho hx hy h1 h2
  have z:=mW ht hA ho hx hy h1
  split at h
  ·rename_i hz
   cases h;have:=qD (K:=o) (z:=bW t A o x y) (by rw[ho.len];exact z.2.2) hz w.2.1
   exact⟨ho.set _ ⟨by omega,w.2.2⟩,by omega⟩
  ·split at h
   ·cases h;exact⟨ho,AE _⟩
   ·cases h
def uQ(ht:am n t)(hA:AuOk n A){o:D6}(ho:KOk n A.length o){x:Nat}(hx:x<n):∀(y:Nat) {o':D6},y<=n->dT t A o x y=some o'->KOk n A.length o'/\aB o'<=aB o
 |0,o',_,h=>by cases h;exact⟨ho,AE _⟩
 |y+1,o',hy,h=>by
  rw[dT]at h;obtain⟨o1,h1,h2⟩:=C6.1 h;have a:=uQ ht hA ho hx y (by omega) h1
  have b:=N1 ht hA a.1 hx (by omega) h2
  exact⟨b.1,by omega⟩
def uR(ht:am n t)(hA:AuOk n A){o:D6}(ho:KOk n A.length o):∀(x:Nat) {o':D6},x<=n->eS t A o x=some o'->KOk n A.length o'/\aB o'<=aB o
 |0,o',_,h=>by cases h;exact⟨ho,AE _⟩
 |x+1,o',hx,h=>by
  rw[eS]at h;obtain⟨o1,h1,h2⟩:=C6.1 h;have a:=uR ht hA ho x (by omega) h1
  have b:=uQ ht hA a.1 (by omega) t.length (by rw[ht.1];exact AE _) h2
  exact⟨b.1,by omega⟩
def N2(ht:am n t)(hA:AuOk n A):∀(fu:Nat) {o o':D6},KOk n A.length o->fw t A fu o=some o'->KOk n A.length o'/\aB o'<=aB o
 |0,o,o',ho,h=>by cases h;exact⟨ho,AE _⟩
 |fu+1,o,o',ho,h=>by
  rw[fw]at h;split at h
  ·cases h
  ·rename_i o1 h1
   have a:=uR ht hA ho t.length (by rw[ht.1];exact AE _) h1
   split at h
   ·have b:=N2 ht hA fu a.1 h
    exact⟨b.1,by omega⟩
   ·cases h;exact a
end
/- The order of tables, and the list of circles. -/
def bO:D7->D7->Bool
 |x::a,y::b=>if x=y then bO a b else bw x y
 |_,_=>false
def ca(c:D7):D8->Nat
 | []=>0
 |k::K=>if bO k c=true then ca c K+1 else 0
def uS(c:D7):∀K,ca c K<=K.length
 | []=>AE _
 |k::K=>by
  rw[ca];split
  ·exact C8 (uS c K)
  ·exact AT _
def qE(c:D7):∀(K:D8) (i:Nat),(∀j,j<i->bO (K.getD j []) c=true)->i<=K.length->(∀h:i<K.length,bO (K.getD i []) c=false)->ca c K=i
 | [],i,_,h,_=>by simp at h;subst h;rfl
 |k::K,0,_,_,h=>by
  have:=h (by simp)
  have h2:bO k c=false:=this
  rw[ca,AB (by rw[h2];simp)]
 |k::K,i+1,a,b,d=>by
  have h0:bO k c=true:=a 0 (by omega)
  rw[ca,AA h0,qE c K i (λj hj=>a (j+1) (by omega)) (by simpa using b) (λh=>d (by simpa using h))]
def fL(out:D8)(c:D7):D8:=out.take (ca c out)++c::out.drop (ca c out)
def uT(out:D8)(c:D7):(fL out c).length=out.length+1:=by
 have:=uS c out
 simp[fL];omega
def N3(out:D8)(c x:D7):x∈fL out c↔x=c\/x∈out:=by
 have h1:(fL out c).Perm (c::(out.take (ca c out)++out.drop (ca c out))):=Cp
 rw[CO]at h1;rw[h1.mem_iff,AG]
def av:D6->Nat
 | []=>0
 |k::K=>if 0<=k then av K+1 else 0
def lO:∀K,av K<=K.length
 | []=>AE _
 |k::K=>by
  rw[av];split
  ·exact C8 (lO K)
  ·exact AT _
def qF:∀(K:D6) (i:Nat),(∀j,j<i->0<=K.getD j 0)->i<=K.length->(∀h:i<K.length,K.getD i 0<0)->av K=i
 | [],i,_,h,_=>by simp at h;subst h;rfl
 |k::K,0,_,_,h=>by
  have h2:k<0:=h (by simp)
  rw[av,AB (by omega)]
 |k::K,i+1,a,b,d=>by
  have h0:0<=k:=a 0 (by omega)
  rw[av,AA h0,qF K i (λj hj=>a (j+1) (by omega)) (by simpa using b) (λh=>d (by simpa using h))]
def uU:∀(K:D6),av K<K.length->K.getD (av K) 0<0
 | [],h=>by simp at h
 |k::K,h=>by
  rw[av]at h⊢;split
  ·rename_i q
   rw[AA q]at h;exact uU K (by simpa using h)
  ·rename_i q
   show k<0
   omega
def oU:∀(K:D6),av K=K.length->∀j,j<K.length->0<=K.getD j 0
 | [],_,j,h=>by simp at h
 |k::K,h,j,hj=>by
  rw[av]at h;split at h
  ·rename_i q
   cases j with
   |zero=>exact q
   |succ j=>exact oU K (by simpa using h) j (by simpa using hj)
  ·simp at h
def bf(t A:D7)(K:D6):D7:=(List.range t.length).map λy=>aR (A.getD (K.getD y 0).toNat []) (t.getD y [])
def cA(g:Nat->D8->D8)(out:D8):Nat->D8
 |0=>out
 |i+1=>g i (cA g out i)
def bZ(t A:D7)(rec:D6->D8->D8)(K:D6)(i:Nat)(o:D8):D8 :=
 match dr t A (K.set (av K) (i:Int))with
 |none=>o
 |some K'=>rec K' o
def bH(t A:D7):Nat->D6->D8->D8
 |0,_,out=>out
 |d+1,K,out=>if av K=K.length then fL out (bf t A K)else cA (bZ t A (bH t A d) K) out A.length
def qG{P:D8->Prop}{g:Nat->D8->D8}{out:D8}(h0:P out):∀m,(∀i o,i<m->P o->P (g i o))->P (cA g out m)
 |0,_=>h0
 |m+1,hg=>hg m _ (by omega) (qG h0 m λi o hi=>hg i o (by omega))
section
variable {n:Nat} {t A:D7}
def uV{K:D6}(hx:av K<K.length){i:Nat}:aB (K.set (av K) (i:Int))+1=aB K:=qD hx (uU K hx) (by omega)
def ji(ht:am n t)(hA:AuOk n A){K K':D6}(hK:KOk n A.length K)(hx:av K<K.length){i:Nat}(hi:i<A.length)(h:dr t A (K.set (av K) (i:Int))=some K'):KOk n A.length K'/\aB K'+1<=aB K:=by
 have a:=N2 ht hA _ (hK.set (av K) (w:=(i:Int)) ⟨by omega,by omega⟩) h
 have:=uV hx (i:=i)
 exact⟨a.1,by omega⟩
def uW(ht:am n t)(hA:AuOk n A){Q:D7->Prop}(hQ:∀K,KOk n A.length K->av K=K.length->Q (bf t A K)):∀(d:Nat) (K:D6) (out:D8),KOk n A.length K->(∀c,c∈out->Q c)->∀c,c∈bH t A d K out->Q c
 |0,K,out,_,ho=>ho
 |d+1,K,out,hK,ho=>by
  rw[bH];split
  ·rename_i h
   intro c hc
   rcases(N3 _ _ _).1 hc with rfl|hc
   ·exact hQ K hK h
   ·exact ho c hc
  ·rename_i h
   have hx:av K<K.length:=by have:=lO K;omega
   refine qG (P:=λo=>∀c,c∈o->Q c) ho A.length λi o hi hP=>?_
   unfold bZ;split
   ·exact hP
   ·rename_i K' hs
    exact uW ht hA hQ d K' o (ji ht hA hK hx hi hs).1 hP
def uX{c:Nat}{g:Nat->D8->D8}{out:D8}:∀m,(∀i o,i<m->(g i o).length<=o.length+c)->(cA g out m).length<=out.length+m*c
 |0,_=>by simp[cA]
 |m+1,hg=>by
  have a:=uX (g:=g) (out:=out) (c:=c) m λi o hi=>hg i o (by omega)
  have b:=hg m (cA g out m) (by omega)
  rw[cA,Ce];omega
def FO(ht:am n t)(hA:AuOk n A){M:Nat}(hM:A.length<=M)(h1:1<=M):∀(d:Nat) (K:D6) (out:D8),KOk n A.length K->(bH t A d K out).length<=out.length+M ^ aB K
 |0,K,out,_=>by rw[bH];omega
 |d+1,K,out,hK=>by
  rw[bH];split
  ·have:=Cs (aB K) M h1
   rw[uT];omega
  ·rename_i h
   have hx:av K<K.length:=by have:=lO K;omega
   have hp:1<=aB K:=by have:=uV hx (i:=0);omega
   have:=uX (g:=bZ t A (bH t A d) K) (out:=out) (c:=M ^ (aB K-1)) A.length λi o hi=>by
    unfold bZ;split
    ·omega
    ·rename_i K' hs
     have q:=ji ht hA hK hx hi hs
     have a:=FO ht hA hM h1 d K' o q.1
     have b:M ^ aB K'<=M ^ (aB K-1):=Bv h1 (by omega)
     omega
   have e:M ^ aB K=M ^ (aB K-1)*M:=by rw[<-B8];congr 1;omega
   have f:A.length*M ^ (aB K-1)<=M ^ (aB K-1)*M:=by rw[B9];exact Cb _ hM
   omega
def N4:∀(d:Nat) (K:D6) (out:D8),out.length<=(bH t A d K out).length
 |0,K,out=>AE _
 |d+1,K,out=>by
  rw[bH];split
  ·rw[uT];omega
  ·refine qG (P:=λo=>out.length<=o.length) (AE _) A.length λi o _ hP=>?_
   unfold bZ;split
   ·exact hP
   ·exact Ao hP (N4 d _ o)
def Z0(n:Nat)(o:D6):Prop:=o.length=n/\∀x,x<n->o.getD x 0=-1\/o.getD x 0=0
theorem Z0.ok{o:D6}(z:Z0 n o)(hA:AuOk n A):KOk n A.length o:=⟨z.1,λx hx=>by
 have:=hA.pos
 rcases z.2 x hx with h|h<;>omega⟩
theorem Z0.set{o:D6}(z:Z0 n o)(q:Nat):Z0 n (o.set q 0):=⟨by rw[Aj];exact z.1,λx hx=>by
 rw[jb _ _ _ _ (by rw[z.1];exact hx)]
 split
 ·exact .inr rfl
 ·exact z.2 x hx⟩
def Yf(h0:gO A 0 0=0){o:D6}(hz:Z0 n o)(x y:Nat):∃o',fY t A o x y=some o'/\Z0 n o':=by
 unfold fY;by_cases c:o.getD x 0<0\/o.getD y 0<0
 ·rw[AA c];exact⟨o,rfl,hz⟩
 ·rw[AB c]
  have e:∀x,¬ o.getD x 0<0->o.getD x 0=0:=λx h=>by
   by_cases q:x<n
   ·rcases hz.2 x q with r|r<;>omega
   ·rw[AM,BM (by have:=hz.1;omega)];rfl
  have w:d6 A o x y=0:=by
   unfold d6;rw[e x (λq=>c (.inl q)),e y (λq=>c (.inr q)),h0];rfl
  rw[w];by_cases z:o.getD (bW t A o x y) 0<0
  ·rw[AA z];exact⟨_,rfl,hz.set _⟩
  ·rw[AB z,AA (e _ z)];exact⟨o,rfl,hz⟩
def N5(h0:gO A 0 0=0){o:D6}(hz:Z0 n o)(x:Nat):∀y,∃o',dT t A o x y=some o'/\Z0 n o'
 |0=>⟨o,rfl,hz⟩
 |y+1=>by
  obtain⟨o1,h1,z1⟩:=N5 h0 hz x y;obtain⟨o2,h2,z2⟩:=Yf (t:=t) h0 z1 x y;exact⟨o2,by rw[dT,h1];exact h2,z2⟩
def N6(h0:gO A 0 0=0){o:D6}(hz:Z0 n o):∀x,∃o',eS t A o x=some o'/\Z0 n o'
 |0=>⟨o,rfl,hz⟩
 |x+1=>by
  obtain⟨o1,h1,z1⟩:=N6 h0 hz x;obtain⟨o2,h2,z2⟩:=N5 (t:=t) h0 z1 x t.length;exact⟨o2,by rw[eS,h1];exact h2,z2⟩
def N7(h0:gO A 0 0=0):∀(fu:Nat) {o:D6},Z0 n o->∃o',fw t A fu o=some o'/\Z0 n o'
 |0,o,hz=>⟨o,rfl,hz⟩
 |fu+1,o,hz=>by
  obtain⟨o1,h1,z1⟩:=N6 (t:=t) h0 hz t.length;rw[fw,h1];simp only;split
  ·exact N7 h0 fu z1
  ·exact⟨o1,rfl,z1⟩
def N8(ht:am n t)(hA:AuOk n A)(h0:gO A 0 0=0):∀(d:Nat) (K:D6) (out:D8),Z0 n K->aB K<d->1<=(bH t A d K out).length
 |0,K,out,_,h=>by omega
 |d+1,K,out,hz,hd=>by
  rw[bH];split
  ·rw[uT];omega
  ·rename_i h
   have hx:av K<K.length:=by have:=lO K;omega
   have key:∀m,1<=m->m<=A.length->1<=(cA (bZ t A (bH t A d) K) out m).length:=λm=>by
    induction m with
    |zero=>intro h;omega
    |succ m ih =>
     intro _ hm
     rw[cA];by_cases q:m=0
     ·subst q
      unfold bZ;obtain⟨K',h1,z1⟩:=N7 (t:=t) h0 (t.length+1) (hz.set (av K));have h1:dr t A (K.set (av K) ((0:Nat):Int))=some K':=h1
      rw[h1];have:=ji ht hA (hz.ok hA) hx (i:=0) (by omega) h1
      exact N8 ht hA h0 d K' _ z1 (by omega)
     ·have:=ih (by omega) (by omega)
      unfold bZ;split
      ·exact this
      ·exact Ao this (N4 d _ _)
   exact key A.length hA.pos (AE _)
end
def aF(t A:D7):D8:=bH t A 12 ((List.replicate t.length (-1)).set 0 0) []
def oV{n:Nat}:Z0 n ((List.replicate n (-1)).set 0 0):=by
 have z:Z0 n (List.replicate n (-1)):=⟨by simp,λx hx=>.inl (by simp[AM,hx])⟩
 exact z.set 0
def uY{n:Nat}(h:1<=n):aB ((List.replicate n (-1)).set 0 0)+1=n:=by
 rw[qD (by simp;omega) (by simp[AM,show 0<n by omega]) (by omega)]
 simp[aB,List.countP_replicate]
def Yg{n:Nat}{t A:D7}(ht:am n t)(hn:1<=n)(hn2:n<=12)(hA:AuOk n A)(h0:gO A 0 0=0):1<=(aF t A).length/\∀c,c∈aF t A->am n c:=by
 have e:t.length=n:=ht.1
 refine⟨N8 ht hA h0 _ _ _ (by rw[e];exact oV) (by have:=uY hn;rw[e];omega),?_⟩
 refine uW ht hA (Q:=am n) (λK hK hp=>?_) 12 _ [] (Z0.ok (by rw[e];exact oV) hA) (λc hc=>by simp at hc)
 refine⟨by simp[bf,e],λx hx=>?_⟩
 have hk:=oU K hp x (by rw[hK.len];exact hx)
 have hr:=hK.rng x hx
 have row:(bf t A K).getD x []=aR (A.getD (K.getD x 0).toNat []) (t.getD x []):=by
  rw[bf];simp[AM,e,hx]
 have L:=hA.len (K.getD x 0).toNat (by omega)
 refine⟨by rw[row,aR,AW,L],λy hy=>?_⟩
 have r:=hA.rng (K.getD x 0).toNat y (by omega) hy
 have v:=(ht.2 x hx).2 (en A (K.getD x 0).toNat y).toNat (by omega)
 have:en (bf t A K) x y=en t x (en A (K.getD x 0).toNat y).toNat:=by
  unfold en at *;rw[row,aR,lJ _ _ 0 0 _ (by omega)]
 rw[this];exact v
def iL(K:D7)(m:D6):Int:=if m∈K then(eH K m:Int)else -1
def FP:List AD->Option Post
 | [.c (.rows .i64 K),.c (.ints .i64 m)]=>some ⟨aJ K,.c (.int .i64 (iL K m)),[]⟩
 |_=>none
def N9(K:D7)(m:D6):Nat->Option Ann
 |0=>Q' λi=>⟨⟨[(0,G' K),(1,D' m),(5,A' i)],[]⟩,(i<=K.length/\(∀j,j<i->K.getD j []≠m)),K.length-i⟩
 |_=>none
def Yj:Fits Tryz.prog 232 ⟨[],FP⟩:=by
 refine ffv (Γ:=ah [(202,⟨[],qy⟩)]) (aq Fn aN) Tryz.func232 λds p h ξ=>?_
 unfold FP at h;split at h<;>cases h
 rename_i K m
 refine⟨aj,N9 K m,(∃x0:Nat,(x0<=K.length/\∀(j:Nat),j<x0->K.getD j []≠m)/\K=K/\m=m/\(0:Int)=(x0:Int))/\∀x1:Nat,(x1<=K.length/\∀(j:Nat),j<x1->K.getD j []≠m)->ab (decide ((x1:Int)<(K.length:Int))) (ac (x1:Int) K.length/\(au ((K.getD (x1:Int).toNat []).length)/\True)/\ab (decide (K.getD (x1:Int).toNat []=m)) ((x1:Int)=iL K m/\True) (ae ((x1:Int)+(1:Int))/\∃x2:Nat,(x2<=K.length/\∀(j:Nat),j<x2->K.getD j []≠m)/\K.length-x2<K.length-x1/\K=K/\m=m/\(x1:Int)+(1:Int)=(x2:Int))) ((-1:Int)=iL K m/\True),by kernel_rfl,?_⟩
 simp only[aO]at ξ⊢;have hk:=ξ.1
 refine⟨⟨0,⟨by omega,λj h=>by omega⟩,rfl⟩,λi ⟨hi,ih⟩=>⟨λh=>⟨by omega,?_,λq=>?_,λq=>⟨by omega,i+1,⟨by omega,λj hj=>?_⟩,by omega,by omega⟩⟩,λh=>?_⟩⟩
 ·exact ξ.2 _ (bN K [] i (by omega))
 ·rw[iL,AA (by rw[<-q];exact bN K [] i (by omega)),qS i ih (by omega) q]
 ·by_cases e:j=i
  ·subst e;exact q
  ·exact ih j (by omega)
 ·rw[iL,AB]
  intro hm
  obtain⟨q1,q2⟩:=kP hm;exact ih _ (by omega) q2
def Yk{a b:D7}(hl:a.length=b.length){i:Nat}(h:i<a.length):bO (a.drop i) (b.drop i)=if a.getD i []=b.getD i []then bO (a.drop (i+1)) (b.drop (i+1))else bw (a.getD i []) (b.getD i []):=by
 rw[drop_cons' a [] i h,drop_cons' b [] i (by omega),bO]
def qH:List AD->Option Post
 | [.c (.r3 .i64 ([a])),.c (.r3 .i64 ([b]))]=>some ⟨aJ a/\aJ b/\a.length=b.length,.c (.bool (bO a b)),[]⟩
 |_=>none
def Oc(a:D7)(b:D7):Nat->Option Ann
 |0=>T' (λk=>⟨⟨[(0,I' ([a])),(1,I' ([b])),(5,A' k)],[]⟩,k<=1/\(k=1->bO a b=false),1-k⟩) (λk b_=>match b_ with|2=>Q' λi=>⟨⟨[(0,I' ([a])),(1,I' ([b])),(5,A' k),(6,A' i)],[]⟩,k=0/\i<=a.length/\bO a b=bO (a.drop i) (b.drop i),a.length-i⟩|_=>none)
 |_=>none
def oW(a:D7)(x0:Nat):=((a::([]:D8)).getD (↑x0:Int).toNat ([]:D7))
def FT:Fits Tryz.prog 142 ⟨[],qH⟩:=by
 refine ffv (Γ:=ah [(202,⟨[],qy⟩),(203,⟨[],vH⟩)]) (aq Fn (aq O6 aN)) Tryz.func142 λds p h ξ=>?_
 unfold qH at h;split at h<;>cases h
 rename_i a b
 refine⟨aj,Oc a b,(∃x0:Nat,(x0<=(1:Nat)/\(x0=(1:Nat)->bO a b=false))/\a::([]:D8)=a::([]:D8)/\b::([]:D8)=b::([]:D8)/\(0:Int)=(x0:Int))/\∀x1:Nat,x1<=(1:Nat)/\(x1=(1:Nat)->bO a b=false)->ab (decide ((x1:Int)<(↑((a::([]:D8)).length):Int))) ((∃x2:Nat,(x1=(0:Nat)/\x2<=a.length/\bO a b=bO (List.drop x2 a) (List.drop x2 b))/\a::([]:D8)=a::([]:D8)/\b::([]:D8)=b::([]:D8)/\(x1:Int)=(x1:Int)/\(0:Int)=(x2:Int))/\∀x3:Nat,x1=(0:Nat)/\x3<=a.length/\bO a b=bO (List.drop x3 a) (List.drop x3 b)->ac (x1:Int) ((a::([]:D8)).length)/\ab (decide ((x3:Int)<(↑(((a::([]:D8)).getD (x1:Int).toNat ([]:D7)).length):Int))) (ac (x1:Int) ((a::([]:D8)).length)/\ac (x3:Int) (oW a x1).length/\ac (x1:Int) ((b::([]:D8)).length)/\ac (x3:Int) (((b::([]:D8)).getD (x1:Int).toNat ([]:D7)).length)/\(au (((oW a x1).getD (x3:Int).toNat []).length)/\True)/\ab (!decide ((List.getD (a::([]:D8)) (x1:Int).toNat ([]:D7)).getD (x3:Int).toNat []=(List.getD (b::([]:D8)) (x1:Int).toNat ([]:D7)).getD (x3:Int).toNat [])) (ac (x1:Int) ((a::([]:D8)).length)/\ac (x3:Int) (oW a x1).length/\ac (x1:Int) ((b::([]:D8)).length)/\ac (x3:Int) (((b::([]:D8)).getD (x1:Int).toNat ([]:D7)).length)/\(au (((oW a x1).getD (x3:Int).toNat []).length)/\True)/\bw ((oW a x1).getD (x3:Int).toNat []) ((List.getD (b::([]:D8)) (x1:Int).toNat ([]:D7)).getD (x3:Int).toNat [])=bO a b/\True) (ae ((x3:Int)+(1:Int))/\∃x4:Nat,(x1=(0:Nat)/\x4<=a.length/\bO a b=bO (List.drop x4 a) (List.drop x4 b))/\a.length-x4<a.length-x3/\a::([]:D8)=a::([]:D8)/\b::([]:D8)=b::([]:D8)/\(x1:Int)=(x1:Int)/\(x3:Int)+(1:Int)=(x4:Int))) (ae ((x1:Int)+(1:Int))/\∃x5:Nat,(x5<=(1:Nat)/\(x5=(1:Nat)->bO a b=false))/\(1:Nat)-x5<(1:Nat)-x1/\a::([]:D8)=a::([]:D8)/\b::([]:D8)=b::([]:D8)/\(x1:Int)+(1:Int)=(x5:Int))) (false=bO a b/\True),by kernel_rfl,?_⟩
 simp only[oW,aO]at ξ⊢;obtain⟨h1,h2,h3⟩:=ξ;have hk:=h1.1
 refine⟨⟨0,⟨by omega,λh=>by omega⟩,rfl⟩,λk ⟨hk,ik⟩=>⟨λh=>⟨⟨0,⟨by omega,by omega,rfl⟩,rfl⟩,λi ⟨e,hi,ii⟩=>?_⟩,λh=>(ik (by omega)).symm⟩⟩
 subst e;have ea:[a].getD 0 []=a:=rfl
 have eb:[b].getD 0 []=b:=rfl
 rw[ea,eb];refine⟨by omega,λq=>?_,λq=>⟨by omega,1,⟨by omega,λ_=>?_⟩,by omega,by omega⟩⟩
 ·have s:=Yk h3 (i:=i) (by omega)
  have r:=h1.2 _ (bN a [] i (by omega))
  refine⟨by omega,by omega,by omega,by omega,r,λz=>⟨by omega,by omega,by omega,by omega,r,?_⟩,λz=>⟨by omega,i+1,⟨rfl,by omega,?_⟩,by omega,by omega⟩⟩
  ·rw[ii,s,AB z]
  ·rw[ii,s,AA z]
 ·rw[ii,BE (by omega)];simp[bO]
def aa(t:D7):D7:=dG [t] [t] 1000000
def qI:List AD->Option Post
 | [.c (.rows .i64 t)]=>some ⟨bX t=true,.c (.rows 62 2 .i64 (aa t)),[]⟩
 |_=>none
def FW:Fits Tryz.prog 137 ⟨[],qI⟩:=by
 refine ffv (Γ:=ah [(128,⟨[],wP⟩)]) (aq Rh aN) Tryz.func137 λds p h ξ=>?_
 unfold qI at h;split at h<;>cases h
 rename_i t
 refine⟨aj,ar,(([(0:Int)]=[(0:Int)]/\(1:Nat)<=(t::([]:D8)).length/\(t::([]:D8)).length<=(1000:Nat)/\(t::([]:D8)).length=(t::([]:D8)).length/\(1:Nat)<=nT (t::([]:D8))/\nT (t::([]:D8))<=(12:Nat)/\bK (nT (t::([]:D8))) (t::([]:D8))/\bK (nT (t::([]:D8))) (t::([]:D8))/\(1:Int)<=(1000000:Int)/\(1000000:Int)<=(1000000:Int))/\True)/\dG (t::([]:D8)) (t::([]:D8)) (1000000:Int)=aa t/\True,by kernel_rfl,?_⟩
 simp only[aO]at ξ⊢;obtain⟨h1,h2,h3⟩:=gH ξ;have e:nT [t]=t.length:=rfl
 have T:bK (nT [t]) [t]:=λk hk=>by
  have:k=0:=by simp at hk;omega
  subst this;refine⟨rfl,λx hx=>⟨(h3 x hx).1,λy hy=>?_⟩⟩
  have:=(h3 x hx).2 y hy
  have e2:en t x y=(t.getD x []).getD y 0:=rfl
  show 0<=en t x y/\en t x y<(t.length:Int)
  omega
 exact⟨⟨by omega,by omega,by omega,by omega,T,T,by omega,by omega⟩,rfl⟩
def Of:∀(a b:D6),a.length=b.length->bw a b=true->∃i,i<a.length/\(∀j,j<i->a.getD j 0=b.getD j 0)/\a.getD i 0<b.getD i 0
 | [],[],_,h=>by cases h
 | [],_::_,hl,_=>by simp at hl
 |_::_,[],hl,_=>by simp at hl
 |x::a,y::b,hl,h=>by
  rw[bw]at h;by_cases e:x=y
  ·rw[AA e]at h
   obtain⟨i,h1,h2,h3⟩:=Of a b (by simpa using hl) h
   refine⟨i+1,by simp;omega,λj hj=>?_,h3⟩
   cases j with
   |zero=>exact e
   |succ j=>exact h2 j (by omega)
  ·rw[AB e]at h
   exact⟨0,by simp,λj hj=>by omega,CT h⟩
def dK(n:Nat):D6:=ax n λi=>(i:Int)
def g9{p q:D6}{i:Nat}(h:i<p.length):(aR p q).getD i 0=q.getD (p.getD i 0).toNat 0:=lJ _ _ _ _ _ h
def iM(p q:D6):(aR p q).length=p.length:=by simp[aR]
def qJ{g:D6}(hn:g.Nodup){i j:Nat}(hi:i<g.length)(hj:j<g.length)(e:g.getD i 0=g.getD j 0):i=j:=by
 rw[bM g 0 i hi,bM g 0 j hj]at e;exact(CM hn).1 e
def Yp{n:Nat}{g:D6}(hl:g.length=n)(hr:∀i,i<n->0<=g.getD i 0)(hn:g.Nodup):bw g (dK n)=false:=by
 cases e:bw g (dK n)with
 |false=>rfl
 |true =>
  exfalso
  obtain⟨i,h1,h2,h3⟩:=Of g (dK n) (by rw[hl,dK,d4]) e
  have u:∀j,j<n->(dK n).getD j 0=(j:Int):=λj hj=>eA _ _ _ hj
  rw[u i (by omega)]at h3
  have h0:=hr i (by omega)
  have hj:=h2 (g.getD i 0).toNat (by omega)
  rw[u _ (by omega)]at hj
  have:g.getD (g.getD i 0).toNat 0=g.getD i 0:=by omega
  have:=qJ hn (i:=(g.getD i 0).toNat) (j:=i) (by omega) h1 this
  omega
section
variable {n:Nat} {t:D7}
def Og(ht:am n t):isoL n [t] [t] (dK n) where
 len:=d4 _ _
 rng i hi:=by rw[dK,eA _ _ _ hi];omega
 nd:=by
  rw[dK,ax,List.Nodup,BZ];exact(Bl (n:=n)).imp fun {x y} h e=>h (by omega)
 ok k x y hk hx hy hv:=by
  have k0:k=0:=by simp at hk;omega
  subst k0;have hx:x<n:=by rwa[dK,d4]at hx
  have hy:y<n:=by rwa[dK,d4]at hy
  have e:[t].getD 0 []=t:=rfl
  rw[e]at hv⊢;have v:=(ht.2 x hx).2 y hy
  rw[dK,eA _ _ _ hx,eA _ _ _ hy,eA _ _ _ (by omega),An,An,Bj v.1]
def lP(ht:am n t){g h:D6}(hg:isoL n [t] [t] g)(hh:isoL n [t] [t] h):isoL n [t] [t] (aR g h) where
 len:=by rw[iM];exact hg.len
 rng i hi:=by
  rw[g9 (by rw[hg.len];exact hi)]
  have:=hg.rng i hi
  exact hh.rng _ (by omega)
 nd:=by
  have G:=hg.g (λk hk=>by have k0:k=0:=(by simp at hk;omega);subst k0;exact ht)
  have H:=hh.g (λk hk=>by have k0:k=0:=(by simp at hk;omega);subst k0;exact ht)
  have gl:=hg.len
  rw[List.Nodup,Bf];intro i j hi hj hij e
  rw[iM]at hi hj;rw[<-bM _ 0 i (by rw[iM];exact hi),<-bM _ 0 j (by rw[iM];exact hj),g9 hi,g9 hj]at e
  have a:=hg.rng i (by omega)
  have b:=hg.rng j (by omega)
  have a2:=hh.rng (g.getD i 0).toNat (by omega)
  have b2:=hh.rng (g.getD j 0).toNat (by omega)
  have q:=H.inj (g.getD i 0).toNat (g.getD j 0).toNat (by omega) (by omega) (by rw[e])
  have:=G.inj i j (by omega) (by omega) q
  omega
 ok k x y hk hx hy hv:=by
  have k0:k=0:=by simp at hk;omega
  subst k0;have gl:=hg.len
  have hl:=hh.len
  rw[iM]at hx hy hv;have e:[t].getD 0 []=t:=rfl
  rw[e]at hv⊢;have v:=(ht.2 x (by omega)).2 y (by omega)
  have a:=hg.rng x (by omega)
  have b:=hg.rng y (by omega)
  rw[g9 (by omega),g9 (by omega),g9 (by omega)]
  have o1:=hg.ok 0 x y (by simp) (by omega) (by omega) (by rw[e];omega)
  rw[e]at o1;rw[o1];have w:=(ht.2 (g.getD x 0).toNat (by omega)).2 (g.getD y 0).toNat (by omega)
  have o2:=hh.ok 0 (g.getD x 0).toNat (g.getD y 0).toNat (by simp) (by omega) (by omega) (by rw[e];omega)
  rw[e]at o2;exact o2
def kN(ht:am n t):bK n [t]:=λk hk=>by
 have k0:k=0:=by simp at hk;omega
 subst k0;exact ht
def FX(ht:am n t)(hn:1<=n):AuOk n (dL n [t] [t])/\(dL n [t] [t]).getD 0 []=dK n:=by
 have T:=kN ht
 have U:dK n∈dL n [t] [t]:=(na T hn).2 ⟨Og ht,by rw[dK,eA _ _ _ (by omega)];rfl⟩
 have I:∀i,i<(dL n [t] [t]).length->isoL n [t] [t] ((dL n [t] [t]).getD i [])/\((dL n [t] [t]).getD i []).getD 0 0=0:=λi hi=>(na T hn).1 (bN _ [] i hi)
 have P:1<=(dL n [t] [t]).length:=Cd U
 refine⟨⟨P,λi hi=>(I i hi).1.len,λi x hi hx=>(I i hi).1.rng x hx,λi j hi hj=>(na T hn).2 ⟨lP ht (I i hi).1 (I j hj).1,?_⟩⟩,?_⟩
 ·have a:=(I i hi).1.len
  rw[g9 (by omega),(I i hi).2];exact(I j hj).2
 ·obtain⟨j,hj,e⟩:=A7 U
  by_cases j0:j=0
  ·subst j0;rw[bM _ [] 0 hj,e]
  ·exfalso
   have S:=Bf.1 (OY n [t] [t]) 0 j (by omega) hj (by omega)
   have a:=(I 0 (by omega)).1
   rw[bM _ [] 0 (by omega)]at a
   have:=Yp a.len (λi hi=>(a.rng i hi).1) a.nd
   rw[e]at S;rw[S]at this;cases this
def ve(ht:am n t)(hn:1<=n)(h:(aa t).length<=999999):aa t=dL n [t] [t]:=by
 have e:nT [t]=n:=ht.1
 have T:=kN ht
 have E:aa t=(dL n [t] [t]).take 1000000:=by
  rw[aa,dG,AA rfl,e];exact pa T rfl hn (by omega)
 rw[E,AP]at h;rw[E,AU (by omega)]
def mX(ht:am n t)(hn:1<=n)(h:(aa t).length<=999999):AuOk n (aa t)/\gO (aa t) 0 0=0:=by
 rw[ve ht hn h];obtain⟨a,b⟩:=FX ht hn;refine⟨a,?_⟩
 have th:aR (dK n) (dK n)=dK n:=by
  refine kA (by rw[iM]) λi hi=>?_
  rw[iM,dK,d4]at hi;rw[g9 (by rw[dK,d4];exact hi),dK,eA _ _ _ hi,An,eA _ _ _ hi]
 have z:(0:Int).toNat=0:=rfl
 rw[gO,z,b,th];exact qS 0 (λj hj=>by omega) (by have:=a.pos;omega) b
end
def FY:List AD->Option Post
 | [.c (.ints .i64 a),.c (.ints .i64 b)]=>some ⟨a.length<=9223372036854775807/\b.length<=9223372036854775807,.c (.bool (decide (a=b))),[]⟩
 |_=>none
def Oh(a:D6)(b:D6):Nat->Option Ann
 |0=>Q' λi=>⟨⟨[(0,D' a),(1,D' b),(12,A' a.length),(13,A' i)],[]⟩,i<=a.length/\a.length=b.length/\decide (a=b)=decide (a.drop i=b.drop i),a.length-i⟩
 |_=>none
def Ys:Fits Tryz.prog 92 ⟨[],FY⟩:=by
 refine ffv (Γ:=ah []) aN Tryz.func92 λds p h ξ=>?_
 unfold FY at h;split at h<;>cases h
 rename_i a b
 refine⟨aj,Oh a b,ab ((a.length:Int) != (b.length:Int)) (false=decide (a=b)/\True) ((∃x0:Nat,(x0<=a.length/\a.length=b.length/\decide (a=b)=decide (List.drop x0 a=List.drop x0 b))/\a=a/\b=b/\(a.length:Int)=(a.length:Int)/\(0:Int)=(x0:Int))/\∀x1:Nat,x1<=a.length/\a.length=b.length/\decide (a=b)=decide (List.drop x1 a=List.drop x1 b)->ab (decide ((x1:Int)<(a.length:Int))) (ac (x1:Int) a.length/\ac (x1:Int) b.length/\ab (a.getD (x1:Int).toNat (0:Int) != b.getD (x1:Int).toNat (0:Int)) (false=decide (a=b)/\True) (ae ((x1:Int)+(1:Int))/\∃x2:Nat,(x2<=a.length/\a.length=b.length/\decide (a=b)=decide (List.drop x2 a=List.drop x2 b))/\a.length-x2<a.length-x1/\a=a/\b=b/\(a.length:Int)=(a.length:Int)/\(x1:Int)+(1:Int)=(x2:Int))) (true=decide (a=b)/\True)),by kernel_rfl,?_⟩
 simp only[aO]at ξ⊢;refine⟨λh=>?_,λh=>⟨⟨0,⟨by omega,by omega,rfl⟩,rfl⟩,λi ⟨hi,hl,he⟩=>⟨λh2=>?_,λh2=>?_⟩⟩⟩
 ·exact(Ad λe=>h (by rw[e])).symm
 ·have ea:=drop_cons' a 0 i (by omega)
  have eb:=drop_cons' b 0 i (by omega)
  refine⟨by omega,by omega,λh3=>?_,λh3=>⟨by omega,i+1,⟨by omega,hl,?_⟩,by omega,by omega⟩⟩
  ·rw[he,ea,eb]
   exact(Ad λe=>h3 (by injection e)).symm
  ·rw[he,ea,eb,h3]
   simp
 ·rw[he,Ca (by omega),Ca (by omega)];rfl
def F0:List AD->Option Post
 | [.c (.ints .i64 p),.c (.ints .i64 q)]=>some ⟨p.length<=1000/\gN q.length p,.c (.ints 2 .i64 (aR p q)),[]⟩
 |_=>none
def Oj(p:D6)(q:D6):Nat->Option Ann
 |0=>Q' λi=>⟨⟨[(0,D' p),(1,D' q),(5,J' 10),(11,D' p),(12,A' p.length),(13,A' i)],[(10,O' (((aR p q).take i++List.replicate ((aR p q).length-i) 0)))]⟩,i<=p.length,p.length-i⟩
 |_=>none
def Yv:Fits Tryz.prog 88 ⟨[],F0⟩:=by
 refine ffv (Γ:=ah []) aN Tryz.func88 λds p h ξ=>?_
 unfold F0 at h;split at h<;>cases h
 rename_i p q
 refine⟨aj,Oj p q,((0:Int)<=(p.length:Int)/\(p.length:Int)<=(p.length:Int)/\au ((p.length:Int).toNat))/\(∃x0:Nat,x0<=p.length/\p=p/\q=q/\p=p/\(p.length:Int)=(p.length:Int)/\(0:Int)=(x0:Int)/\List.replicate ((p.length:Int).toNat) (0:Int)=List.take x0 (aR p q)++List.replicate ((aR p q).length-x0) (0:Int))/\∀x1:Nat,x1<=p.length->ab (decide ((x1:Int)<(p.length:Int))) (ac (x1:Int) p.length/\ac (p.getD (x1:Int).toNat (0:Int)) q.length/\ac (x1:Int) ((List.take x1 (aR p q)++List.replicate ((aR p q).length-x1) (0:Int)).length)/\ae ((x1:Int)+(1:Int))/\∃x2:Nat,x2<=p.length/\p.length-x2<p.length-x1/\p=p/\q=q/\p=p/\(p.length:Int)=(p.length:Int)/\(x1:Int)+(1:Int)=(x2:Int)/\List.set (List.take x1 (aR p q)++List.replicate ((aR p q).length-x1) (0:Int)) (x1:Int).toNat (q.getD ((p.getD (x1:Int).toNat (0:Int)).toNat) (0:Int))=List.take x2 (aR p q)++List.replicate ((aR p q).length-x2) (0:Int)) (List.take x1 (aR p q)++List.replicate ((aR p q).length-x1) (0:Int)=aR p q/\True),by kernel_rfl,?_⟩
 simp only[aO]at ξ⊢;obtain⟨h1,h3⟩:=ξ;have hl:=iM p q
 refine⟨by omega,⟨0,by omega,rfl,aC8 _ _ _ hl⟩,λi hi=>⟨λh=>?_,λh=>?_⟩⟩
 ·have hr:=h3 i (by omega)
  refine⟨by omega,by omega,by omega,by omega,i+1,by omega,by omega,by omega,?_⟩
  rw[<-yN (aR p q) 0 0 i (by omega),g9 (by omega)]
 ·exact aC9 _ _ _ (by omega)
end Go.Sx
