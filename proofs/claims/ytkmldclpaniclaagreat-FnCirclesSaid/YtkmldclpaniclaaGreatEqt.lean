/- Eqt -/
import Derived.Test.YtkmldclpaniclaaGreatMapA
import Derived.Test.YtkmldclpaniclaaGreatDrawY
import Derived.Test.YtkmldclpaniclaaGreatOwn2
set_option linter.unusedSimpArgs false
set_option linter.unusedVariables false
set_option linter.defProp false
open Go Go.Proofs
namespace Go.Sx
/- Permutations of n elements that are closed. -/
structure AuOk (n:Nat) (A:D2):Prop where
 pos:1<=A.length
 len:∀i,i<A.length->(A.getD i []).length=n
 rng:∀i x,i<A.length->x<n->0<=en A i x/\en A i x<(n:Int)
 cl:∀i j,i<A.length->j<A.length->aE (A.getD i []) (A.getD j [])∈A
def gP(A:D2)(i j:Int):Nat:=d6 A (aE (A.getD i.toNat []) (A.getD j.toNat []))
structure KOk (n m:Nat) (K:D1):Prop where
 len:K.length=n
 rng:∀x,x<n->-1<=K.getD x 0/\K.getD x 0<(m:Int)
theorem KOk.set{n m:Nat}{K:D1}(h:KOk n m K)(z:Nat){w:Int}(hw:-1<=w/\w<(m:Int)):KOk n m (K.set z w) where
 len:=by rw[Ak];exact h.len
 rng x hx:=by
  rw[iM _ _ _ _ (by rw[h.len];exact hx)]
  split
  ·exact hw
  ·exact h.rng x hx
def az(K:D1):Nat:=K.countP fun x=>decide (x<0)
theorem pF{K:D1}{z:Nat}{w:Int}(hz:z<K.length)(h:K.getD z 0<0)(hw:0<=w):az (K.set z w)+1=az K:=by
 unfold az
 induction K generalizing z with
 |nil=>simp at hz
 |cons k K ih =>
  cases z with
  |zero =>
   have h:k<0:=h
   have hw':¬ w<0:=by omega
   simp[h,hw']
  |succ z =>
   have:=ih (z:=z) (by simpa using hz) h
   simp only[DQ,B6];omega
theorem zx(K:D1):az K<=K.length:=List.countP_le_length
def bP(t A:D2)(o:D1)(x y:Nat):Nat:=(en t x (en A (o.getD x 0).toNat y).toNat).toNat
def dN(A:D2)(o:D1)(x y:Nat):Int:=(gP A (o.getD y 0) (o.getD x 0):Int)
def fI(t A:D2)(o:D1)(x y:Nat):Option D1 :=
 if o.getD x 0<0\/o.getD y 0<0 then some o
 else if o.getD (bP t A o x y) 0<0 then some (o.set (bP t A o x y) (dN A o x y))
 else if o.getD (bP t A o x y) 0=dN A o x y then some o else none
def dz(t A:D2)(o:D1)(x:Nat):Nat->Option D1
 |0=>some o
 |y+1=>(dz t A o x y).bind fun o'=>fI t A o' x y
def eu(t A:D2)(o:D1):Nat->Option D1
 |0=>some o
 |x+1=>(eu t A o x).bind fun o'=>dz t A o' x t.length
def eV(t A:D2):Nat->D1->Option D1
 |0,o=>some o
 |fu+1,o=>match eu t A o t.length with
  |none=>none
  |some o'=>if az o'<az o then eV t A fu o' else some o'
def da(t A:D2)(K:D1):Option D1:=eV t A (t.length+1) K
section
variable {n:Nat} {t A:D2}
theorem nQ(hA:AuOk n A){o:D1}(ho:KOk n A.length o){x y:Nat}(hx:x<n)(hy:y<n)(h1:0<=o.getD x 0)(h2:0<=o.getD y 0):aE (A.getD (o.getD y 0).toNat []) (A.getD (o.getD x 0).toNat [])∈A/\0<=dN A o x y/\dN A o x y<(A.length:Int):=by
 have a:=ho.rng x hx
 have b:=ho.rng y hy
 have m:=hA.cl (o.getD y 0).toNat (o.getD x 0).toNat (by omega) (by omega)
 have:=(j9 m).1
 refine⟨m,?_⟩
 unfold dN gP;omega
theorem mi(ht:aA n t)(hA:AuOk n A){o:D1}(ho:KOk n A.length o){x y:Nat}(hx:x<n)(hy:y<n)(h1:0<=o.getD x 0):(0<=en A (o.getD x 0).toNat y/\en A (o.getD x 0).toNat y<(n:Int))/\(0<=en t x (en A (o.getD x 0).toNat y).toNat/\en t x (en A (o.getD x 0).toNat y).toNat<(n:Int))/\bP t A o x y<n:=by
 have a:=ho.rng x hx
 have b:=hA.rng (o.getD x 0).toNat y (by omega) hy
 have c:=(ht.2 x hx).2 (en A (o.getD x 0).toNat y).toNat (by omega)
 refine⟨b,c,?_⟩
 unfold bP;omega
theorem KX(ht:aA n t)(hA:AuOk n A){o o':D1}(ho:KOk n A.length o){x y:Nat}(hx:x<n)(hy:y<n)(h:fI t A o x y=some o'):KOk n A.length o'/\az o'<=az o:=by
 unfold fI at h;split at h
 ·cases h;exact⟨ho,AE _⟩
 ·rename_i hn
  have h1:0<=o.getD x 0:=by omega
  have h2:0<=o.getD y 0:=by omega
  have w:=nQ hA ho hx hy h1 h2
  have z:=mi ht hA ho hx hy h1
  split at h
  ·rename_i hz
   cases h;have:=pF (K:=o) (z:=bP t A o x y) (by rw[ho.len];exact z.2.2) hz w.2.1
   exact⟨ho.set _ ⟨by omega,w.2.2⟩,by omega⟩
  ·split at h
   ·cases h;exact⟨ho,AE _⟩
   ·cases h
theorem sS(ht:aA n t)(hA:AuOk n A){o:D1}(ho:KOk n A.length o){x:Nat}(hx:x<n):∀(y:Nat) {o':D1},y<=n->dz t A o x y=some o'->KOk n A.length o'/\az o'<=az o
 |0,o',_,h=>by cases h;exact⟨ho,AE _⟩
 |y+1,o',hy,h=>by
  rw[dz]at h;obtain⟨o1,h1,h2⟩:=Cz.1 h;have a:=sS ht hA ho hx y (by omega) h1
  have b:=KX ht hA a.1 hx (by omega) h2
  exact⟨b.1,by omega⟩
theorem sT(ht:aA n t)(hA:AuOk n A){o:D1}(ho:KOk n A.length o):∀(x:Nat) {o':D1},x<=n->eu t A o x=some o'->KOk n A.length o'/\az o'<=az o
 |0,o',_,h=>by cases h;exact⟨ho,AE _⟩
 |x+1,o',hx,h=>by
  rw[eu]at h;obtain⟨o1,h1,h2⟩:=Cz.1 h;have a:=sT ht hA ho x (by omega) h1
  have b:=sS ht hA a.1 (by omega) t.length (by rw[ht.1];exact AE _) h2
  exact⟨b.1,by omega⟩
theorem KY(ht:aA n t)(hA:AuOk n A):∀(fu:Nat) {o o':D1},KOk n A.length o->eV t A fu o=some o'->KOk n A.length o'/\az o'<=az o
 |0,o,o',ho,h=>by cases h;exact⟨ho,AE _⟩
 |fu+1,o,o',ho,h=>by
  rw[eV]at h;split at h
  ·cases h
  ·rename_i o1 h1
   have a:=sT ht hA ho t.length (by rw[ht.1];exact AE _) h1
   split at h
   ·have b:=KY ht hA fu a.1 h
    exact⟨b.1,by omega⟩
   ·cases h;exact a
end
/- The order of tables, and the list of circles. -/
def ca:D2->D2->Bool
 |x::a,y::b=>if x=y then ca a b else bh x y
 |_,_=>false
def cJ(c:D2):D3->Nat
 | []=>0
 |k::K=>if ca k c=true then cJ c K+1 else 0
theorem zy(c:D2):∀K,cJ c K<=K.length
 | []=>AE _
 |k::K=>by
  rw[cJ];split
  ·exact C0 (zy c K)
  ·exact AQ _
theorem zA(c:D2):∀(K:D3) (i:Nat),(∀j,j<i->ca (K.getD j []) c=true)->i<=K.length->(∀h:i<K.length,ca (K.getD i []) c=false)->cJ c K=i
 | [],i,_,h,_=>by simp at h;subst h;rfl
 |k::K,0,_,_,h=>by
  have:=h (by simp)
  have h2:ca k c=false:=this
  rw[cJ,AB (by rw[h2];simp)]
 |k::K,i+1,a,b,d=>by
  have h0:ca k c=true:=a 0 (by omega)
  rw[cJ,AA h0,zA c K i (fun j hj=>a (j+1) (by omega)) (by simpa using b) (fun h=>d (by simpa using h))]
def fJ(out:D3)(c:D2):D3:=out.take (cJ c out)++c::out.drop (cJ c out)
theorem sU(out:D3)(c:D2):(fJ out c).length=out.length+1:=by
 have:=zy c out
 simp[fJ];omega
theorem KZ(out:D3)(c x:D2):x∈fJ out c↔x=c\/x∈out:=by
 have h1:(fJ out c).Perm (c::(out.take (cJ c out)++out.drop (cJ c out))):=Cj
 rw[CF]at h1;rw[h1.mem_iff,AG]
def aB:D1->Nat
 | []=>0
 |k::K=>if 0<=k then aB K+1 else 0
theorem mj:∀K,aB K<=K.length
 | []=>AE _
 |k::K=>by
  rw[aB];split
  ·exact C0 (mj K)
  ·exact AQ _
theorem zB:∀(K:D1) (i:Nat),(∀j,j<i->0<=K.getD j 0)->i<=K.length->(∀h:i<K.length,K.getD i 0<0)->aB K=i
 | [],i,_,h,_=>by simp at h;subst h;rfl
 |k::K,0,_,_,h=>by
  have h2:k<0:=h (by simp)
  rw[aB,AB (by omega)]
 |k::K,i+1,a,b,d=>by
  have h0:0<=k:=a 0 (by omega)
  rw[aB,AA h0,zB K i (fun j hj=>a (j+1) (by omega)) (by simpa using b) (fun h=>d (by simpa using h))]
theorem sV:∀(K:D1),aB K<K.length->K.getD (aB K) 0<0
 | [],h=>by simp at h
 |k::K,h=>by
  rw[aB]at h⊢;split
  ·rename_i q
   rw[AA q]at h;exact sV K (by simpa using h)
  ·rename_i q
   show k<0
   omega
theorem pG:∀(K:D1),aB K=K.length->∀j,j<K.length->0<=K.getD j 0
 | [],_,j,h=>by simp at h
 |k::K,h,j,hj=>by
  rw[aB]at h;split at h
  ·rename_i q
   cases j with
   |zero=>exact q
   |succ j=>exact pG K (by simpa using h) j (by simpa using hj)
  ·simp at h
def bK(t A:D2)(K:D1):D2:=(List.range t.length).map fun y=>aE (A.getD (K.getD y 0).toNat []) (t.getD y [])
def dH(g:Nat->D3->D3)(out:D3):Nat->D3
 |0=>out
 |i+1=>g i (dH g out i)
def db(t A:D2)(rec:D1->D3->D3)(K:D1)(i:Nat)(o:D3):D3 :=
 match da t A (K.set (aB K) (i:Int))with
 |none=>o
 |some K'=>rec K' o
def cr(t A:D2):Nat->D1->D3->D3
 |0,_,out=>out
 |d+1,K,out=>if aB K=K.length then fJ out (bK t A K)else dH (db t A (cr t A d) K) out A.length
theorem sW{P:D3->Prop}{g:Nat->D3->D3}{out:D3}(h0:P out):∀m,(∀i o,i<m->P o->P (g i o))->P (dH g out m)
 |0,_=>h0
 |m+1,hg=>hg m _ (by omega) (sW h0 m fun i o hi=>hg i o (by omega))
section
variable {n:Nat} {t A:D2}
theorem zC{K:D1}(hx:aB K<K.length){i:Nat}:az (K.set (aB K) (i:Int))+1=az K:=pF hx (sV K hx) (by omega)
theorem kT(ht:aA n t)(hA:AuOk n A){K K':D1}(hK:KOk n A.length K)(hx:aB K<K.length){i:Nat}(hi:i<A.length)(h:da t A (K.set (aB K) (i:Int))=some K'):KOk n A.length K'/\az K'+1<=az K:=by
 have a:=KY ht hA _ (hK.set (aB K) (w:=(i:Int)) ⟨by omega,by omega⟩) h
 have:=zC hx (i:=i)
 exact⟨a.1,by omega⟩
theorem zD(ht:aA n t)(hA:AuOk n A){Q:D2->Prop}(hQ:∀K,KOk n A.length K->aB K=K.length->Q (bK t A K)):∀(d:Nat) (K:D1) (out:D3),KOk n A.length K->(∀c,c∈out->Q c)->∀c,c∈cr t A d K out->Q c
 |0,K,out,_,ho=>ho
 |d+1,K,out,hK,ho=>by
  rw[cr];split
  ·rename_i h
   intro c hc
   rcases(KZ _ _ _).1 hc with rfl|hc
   ·exact hQ K hK h
   ·exact ho c hc
  ·rename_i h
   have hx:aB K<K.length:=by have:=mj K;omega
   refine sW (P:=fun o=>∀c,c∈o->Q c) ho A.length fun i o hi hP=>?_
   unfold db;split
   ·exact hP
   ·rename_i K' hs
    exact zD ht hA hQ d K' o (kT ht hA hK hx hi hs).1 hP
theorem zE{c:Nat}{g:Nat->D3->D3}{out:D3}:∀m,(∀i o,i<m->(g i o).length<=o.length+c)->(dH g out m).length<=out.length+m*c
 |0,_=>by simp[dH]
 |m+1,hg=>by
  have a:=zE (g:=g) (out:=out) (c:=c) m fun i o hi=>hg i o (by omega)
  have b:=hg m (dH g out m) (by omega)
  rw[dH,Cy];omega
theorem K0(ht:aA n t)(hA:AuOk n A){M:Nat}(hM:A.length<=M)(h1:1<=M):∀(d:Nat) (K:D1) (out:D3),KOk n A.length K->(cr t A d K out).length<=out.length+M ^ az K
 |0,K,out,_=>by rw[cr];omega
 |d+1,K,out,hK=>by
  rw[cr];split
  ·have:=DL (az K) M h1
   rw[sU];omega
  ·rename_i h
   have hx:aB K<K.length:=by have:=mj K;omega
   have hp:1<=az K:=by have:=zC hx (i:=0);omega
   have:=zE (g:=db t A (cr t A d) K) (out:=out) (c:=M ^ (az K-1)) A.length fun i o hi=>by
    unfold db;split
    ·omega
    ·rename_i K' hs
     have q:=kT ht hA hK hx hi hs
     have a:=K0 ht hA hM h1 d K' o q.1
     have b:M ^ az K'<=M ^ (az K-1):=Ca h1 (by omega)
     omega
   have e:M ^ az K=M ^ (az K-1)*M:=by rw[<-CJ];congr 1;omega
   have f:A.length*M ^ (az K-1)<=M ^ (az K-1)*M:=by rw[CK];exact Cn _ hM
   omega
theorem K3:∀(d:Nat) (K:D1) (out:D3),out.length<=(cr t A d K out).length
 |0,K,out=>AE _
 |d+1,K,out=>by
  rw[cr];split
  ·rw[sU];omega
  ·refine sW (P:=fun o=>out.length<=o.length) (AE _) A.length fun i o _ hP=>?_
   unfold db;split
   ·exact hP
   ·exact Ar hP (K3 d _ o)
def Z0(n:Nat)(o:D1):Prop:=o.length=n/\∀x,x<n->o.getD x 0=-1\/o.getD x 0=0
theorem Z0.ok{o:D1}(z:Z0 n o)(hA:AuOk n A):KOk n A.length o:=⟨z.1,fun x hx=>by
 have:=hA.pos
 rcases z.2 x hx with h|h<;>omega⟩
theorem Z0.set{o:D1}(z:Z0 n o)(q:Nat):Z0 n (o.set q 0):=⟨by rw[Ak];exact z.1,fun x hx=>by
 rw[iM _ _ _ _ (by rw[z.1];exact hx)]
 split
 ·exact .inr rfl
 ·exact z.2 x hx⟩
theorem Ug(h0:gP A 0 0=0){o:D1}(hz:Z0 n o)(x y:Nat):∃o',fI t A o x y=some o'/\Z0 n o':=by
 unfold fI;by_cases c:o.getD x 0<0\/o.getD y 0<0
 ·rw[AA c];exact⟨o,rfl,hz⟩
 ·rw[AB c]
  have e:∀x,¬ o.getD x 0<0->o.getD x 0=0:=fun x h=>by
   by_cases q:x<n
   ·rcases hz.2 x q with r|r<;>omega
   ·rw[AP,BQ (by have:=hz.1;omega)];rfl
  have w:dN A o x y=0:=by
   unfold dN;rw[e x (fun q=>c (.inl q)),e y (fun q=>c (.inr q)),h0];rfl
  rw[w];by_cases z:o.getD (bP t A o x y) 0<0
  ·rw[AA z];exact⟨_,rfl,hz.set _⟩
  ·rw[AB z,AA (e _ z)];exact⟨o,rfl,hz⟩
theorem K4(h0:gP A 0 0=0){o:D1}(hz:Z0 n o)(x:Nat):∀y,∃o',dz t A o x y=some o'/\Z0 n o'
 |0=>⟨o,rfl,hz⟩
 |y+1=>by
  obtain⟨o1,h1,z1⟩:=K4 h0 hz x y;obtain⟨o2,h2,z2⟩:=Ug (t:=t) h0 z1 x y;exact⟨o2,by rw[dz,h1];exact h2,z2⟩
theorem K5(h0:gP A 0 0=0){o:D1}(hz:Z0 n o):∀x,∃o',eu t A o x=some o'/\Z0 n o'
 |0=>⟨o,rfl,hz⟩
 |x+1=>by
  obtain⟨o1,h1,z1⟩:=K5 h0 hz x;obtain⟨o2,h2,z2⟩:=K4 (t:=t) h0 z1 x t.length;exact⟨o2,by rw[eu,h1];exact h2,z2⟩
theorem K6(h0:gP A 0 0=0):∀(fu:Nat) {o:D1},Z0 n o->∃o',eV t A fu o=some o'/\Z0 n o'
 |0,o,hz=>⟨o,rfl,hz⟩
 |fu+1,o,hz=>by
  obtain⟨o1,h1,z1⟩:=K5 (t:=t) h0 hz t.length;rw[eV,h1];simp only;split
  ·exact K6 h0 fu z1
  ·exact⟨o1,rfl,z1⟩
theorem K7(ht:aA n t)(hA:AuOk n A)(h0:gP A 0 0=0):∀(d:Nat) (K:D1) (out:D3),Z0 n K->az K<d->1<=(cr t A d K out).length
 |0,K,out,_,h=>by omega
 |d+1,K,out,hz,hd=>by
  rw[cr];split
  ·rw[sU];omega
  ·rename_i h
   have hx:aB K<K.length:=by have:=mj K;omega
   have key:∀m,1<=m->m<=A.length->1<=(dH (db t A (cr t A d) K) out m).length:=fun m=>by
    induction m with
    |zero=>intro h;omega
    |succ m ih =>
     intro _ hm
     rw[dH];by_cases q:m=0
     ·subst q
      unfold db;obtain⟨K',h1,z1⟩:=K6 (t:=t) h0 (t.length+1) (hz.set (aB K));have h1:da t A (K.set (aB K) ((0:Nat):Int))=some K':=h1
      rw[h1];have:=kT ht hA (hz.ok hA) hx (i:=0) (by omega) h1
      exact K7 ht hA h0 d K' _ z1 (by omega)
     ·have:=ih (by omega) (by omega)
      unfold db;split
      ·exact this
      ·exact Ar this (K3 d _ _)
   exact key A.length hA.pos (AE _)
end
def bw(t A:D2):D3:=cr t A 12 ((List.replicate t.length (-1)).set 0 0) []
theorem pH{n:Nat}:Z0 n ((List.replicate n (-1)).set 0 0):=by
 have z:Z0 n (List.replicate n (-1)):=⟨by simp,fun x hx=>.inl (by simp[AP,hx])⟩
 exact z.set 0
theorem zF{n:Nat}(h:1<=n):az ((List.replicate n (-1)).set 0 0)+1=n:=by
 rw[pF (by simp;omega) (by simp[AP,show 0<n by omega]) (by omega)]
 simp[az,List.countP_replicate]
theorem Uh{n:Nat}{t A:D2}(ht:aA n t)(hn:1<=n)(hn2:n<=12)(hA:AuOk n A)(h0:gP A 0 0=0):1<=(bw t A).length/\∀c,c∈bw t A->aA n c:=by
 have e:t.length=n:=ht.1
 refine⟨K7 ht hA h0 _ _ _ (by rw[e];exact pH) (by have:=zF hn;rw[e];omega),?_⟩
 refine zD ht hA (Q:=aA n) (fun K hK hp=>?_) 12 _ [] (Z0.ok (by rw[e];exact pH) hA) (fun c hc=>by simp at hc)
 refine⟨by simp[bK,e],fun x hx=>?_⟩
 have hk:=pG K hp x (by rw[hK.len];exact hx)
 have hr:=hK.rng x hx
 have row:(bK t A K).getD x []=aE (A.getD (K.getD x 0).toNat []) (t.getD x []):=by
  rw[bK];simp[AP,e,hx]
 have L:=hA.len (K.getD x 0).toNat (by omega)
 refine⟨by rw[row,aE,AR,L],fun y hy=>?_⟩
 have r:=hA.rng (K.getD x 0).toNat y (by omega) hy
 have v:=(ht.2 x hx).2 (en A (K.getD x 0).toNat y).toNat (by omega)
 have:en (bK t A K) x y=en t x (en A (K.getD x 0).toNat y).toNat:=by
  unfold en at *;rw[row,aE,jT _ _ 0 0 _ (by omega)]
 rw[this];exact v
def ip(K:D2)(m:D1):Int:=if m∈K then(d6 K m:Int)else -1
def zG:List AD->Option Post
 | [.c (.rows .i64 K),.c (.ints .i64 m)]=>some ⟨aS K,.c (.int .i64 (ip K m)),[]⟩
 |_=>none
def K8(K:D2)(m:D1):Nat->Option Ann
 |0=>Q' fun i=>⟨⟨[(0,G' K),(1,D' m),(5,A' i)],[]⟩,(i<=K.length/\(∀j,j<i->K.getD j []≠m)),K.length-i⟩
 |_=>none
theorem Uk:Fits Tryz.prog 232 ⟨[],zG⟩:=by
 refine ffv (Γ:=ah [(202,⟨[],pB⟩)]) (aw yU aI) Tryz.func232 fun ds p h ξ=>?_
 unfold zG at h;split at h<;>cases h
 rename_i K m
 refine⟨aj,K8 K m,(∃x0:Nat,(x0<=K.length/\∀(j:Nat),j<x0->K.getD j []≠m)/\K=K/\m=m/\(0:Int)=(x0:Int))/\∀x1:Nat,(x1<=K.length/\∀(j:Nat),j<x1->K.getD j []≠m)->ab (decide ((x1:Int)<(K.length:Int))) (ac (x1:Int) K.length/\(am ((K.getD (x1:Int).toNat []).length)/\True)/\ab (decide (K.getD (x1:Int).toNat []=m)) ((x1:Int)=ip K m/\True) (af ((x1:Int)+(1:Int))/\∃x2:Nat,(x2<=K.length/\∀(j:Nat),j<x2->K.getD j []≠m)/\K.length-x2<K.length-x1/\K=K/\m=m/\(x1:Int)+(1:Int)=(x2:Int))) ((-1:Int)=ip K m/\True),by kernel_rfl,?_⟩
 simp only[aJ]at ξ⊢;have hk:=ξ.1
 refine⟨⟨0,⟨by omega,fun j h=>by omega⟩,rfl⟩,fun i ⟨hi,ih⟩=>⟨fun h=>⟨by omega,?_,fun q=>?_,fun q=>⟨by omega,i+1,⟨by omega,fun j hj=>?_⟩,by omega,by omega⟩⟩,fun h=>?_⟩⟩
 ·exact ξ.2 _ (bI K [] i (by omega))
 ·rw[ip,AA (by rw[<-q];exact bI K [] i (by omega)),pQ i ih (by omega) q]
 ·by_cases e:j=i
  ·subst e;exact q
  ·exact ih j (by omega)
 ·rw[ip,AB]
  intro hm
  obtain⟨q1,q2⟩:=j9 hm;exact ih _ (by omega) q2
theorem Ul{a b:D2}(hl:a.length=b.length){i:Nat}(h:i<a.length):ca (a.drop i) (b.drop i)=if a.getD i []=b.getD i []then ca (a.drop (i+1)) (b.drop (i+1))else bh (a.getD i []) (b.getD i []):=by
 rw[drop_cons' a [] i h,drop_cons' b [] i (by omega),ca]
def zI:List AD->Option Post
 | [.c (.r3 .i64 ([a])),.c (.r3 .i64 ([b]))]=>some ⟨aS a/\aS b/\a.length=b.length,.c (.bool (ca a b)),[]⟩
 |_=>none
def Lc(a:D2)(b:D2):Nat->Option Ann
 |0=>T' (fun k=>⟨⟨[(0,I' ([a])),(1,I' ([b])),(5,A' k)],[]⟩,k<=1/\(k=1->ca a b=false),1-k⟩) (fun k b_=>match b_ with|2=>Q' fun i=>⟨⟨[(0,I' ([a])),(1,I' ([b])),(5,A' k),(6,A' i)],[]⟩,k=0/\i<=a.length/\ca a b=ca (a.drop i) (b.drop i),a.length-i⟩|_=>none)
 |_=>none
def nR(a:D2)(x0:Nat):=((a::([]:D3)).getD (↑x0:Int).toNat ([]:D2))
theorem Uo:Fits Tryz.prog 142 ⟨[],zI⟩:=by
 refine ffv (Γ:=ah [(202,⟨[],pB⟩),(203,⟨[],tO⟩)]) (aw yU (aw Mg aI)) Tryz.func142 fun ds p h ξ=>?_
 unfold zI at h;split at h<;>cases h
 rename_i a b
 refine⟨aj,Lc a b,(∃x0:Nat,(x0<=(1:Nat)/\(x0=(1:Nat)->ca a b=false))/\a::([]:D3)=a::([]:D3)/\b::([]:D3)=b::([]:D3)/\(0:Int)=(x0:Int))/\∀x1:Nat,x1<=(1:Nat)/\(x1=(1:Nat)->ca a b=false)->ab (decide ((x1:Int)<(↑((a::([]:D3)).length):Int))) ((∃x2:Nat,(x1=(0:Nat)/\x2<=a.length/\ca a b=ca (List.drop x2 a) (List.drop x2 b))/\a::([]:D3)=a::([]:D3)/\b::([]:D3)=b::([]:D3)/\(x1:Int)=(x1:Int)/\(0:Int)=(x2:Int))/\∀x3:Nat,x1=(0:Nat)/\x3<=a.length/\ca a b=ca (List.drop x3 a) (List.drop x3 b)->ac (x1:Int) ((a::([]:D3)).length)/\ab (decide ((x3:Int)<(↑(((a::([]:D3)).getD (x1:Int).toNat ([]:D2)).length):Int))) (ac (x1:Int) ((a::([]:D3)).length)/\ac (x3:Int) (nR a x1).length/\ac (x1:Int) ((b::([]:D3)).length)/\ac (x3:Int) (((b::([]:D3)).getD (x1:Int).toNat ([]:D2)).length)/\(am (((nR a x1).getD (x3:Int).toNat []).length)/\True)/\ab (!decide ((List.getD (a::([]:D3)) (x1:Int).toNat ([]:D2)).getD (x3:Int).toNat []=(List.getD (b::([]:D3)) (x1:Int).toNat ([]:D2)).getD (x3:Int).toNat [])) (ac (x1:Int) ((a::([]:D3)).length)/\ac (x3:Int) (nR a x1).length/\ac (x1:Int) ((b::([]:D3)).length)/\ac (x3:Int) (((b::([]:D3)).getD (x1:Int).toNat ([]:D2)).length)/\(am (((nR a x1).getD (x3:Int).toNat []).length)/\True)/\bh ((nR a x1).getD (x3:Int).toNat []) ((List.getD (b::([]:D3)) (x1:Int).toNat ([]:D2)).getD (x3:Int).toNat [])=ca a b/\True) (af ((x3:Int)+(1:Int))/\∃x4:Nat,(x1=(0:Nat)/\x4<=a.length/\ca a b=ca (List.drop x4 a) (List.drop x4 b))/\a.length-x4<a.length-x3/\a::([]:D3)=a::([]:D3)/\b::([]:D3)=b::([]:D3)/\(x1:Int)=(x1:Int)/\(x3:Int)+(1:Int)=(x4:Int))) (af ((x1:Int)+(1:Int))/\∃x5:Nat,(x5<=(1:Nat)/\(x5=(1:Nat)->ca a b=false))/\(1:Nat)-x5<(1:Nat)-x1/\a::([]:D3)=a::([]:D3)/\b::([]:D3)=b::([]:D3)/\(x1:Int)+(1:Int)=(x5:Int))) (false=ca a b/\True),by kernel_rfl,?_⟩
 simp only[nR,aJ]at ξ⊢;obtain⟨h1,h2,h3⟩:=ξ;have hk:=h1.1
 refine⟨⟨0,⟨by omega,fun h=>by omega⟩,rfl⟩,fun k ⟨hk,ik⟩=>⟨fun h=>⟨⟨0,⟨by omega,by omega,rfl⟩,rfl⟩,fun i ⟨e,hi,ii⟩=>?_⟩,fun h=>(ik (by omega)).symm⟩⟩
 subst e;have ea:[a].getD 0 []=a:=rfl
 have eb:[b].getD 0 []=b:=rfl
 rw[ea,eb];refine⟨by omega,fun q=>?_,fun q=>⟨by omega,1,⟨by omega,fun _=>?_⟩,by omega,by omega⟩⟩
 ·have s:=Ul h3 (i:=i) (by omega)
  have r:=h1.2 _ (bI a [] i (by omega))
  refine⟨by omega,by omega,by omega,by omega,r,fun z=>⟨by omega,by omega,by omega,by omega,r,?_⟩,fun z=>⟨by omega,i+1,⟨rfl,by omega,?_⟩,by omega,by omega⟩⟩
  ·rw[ii,s,AB z]
  ·rw[ii,s,AA z]
 ·rw[ii,BF (by omega)];simp[ca]
def aa(t:D2):D2:=gX [t] [t] 1000000
def zK:List AD->Option Post
 | [.c (.rows .i64 t)]=>some ⟨cj t=true,.c (.rows 62 2 .i64 (aa t)),[]⟩
 |_=>none
theorem Ur:Fits Tryz.prog 137 ⟨[],zK⟩:=by
 refine ffv (Γ:=ah [(128,⟨[],Fm⟩)]) (aw WB aI) Tryz.func137 fun ds p h ξ=>?_
 unfold zK at h;split at h<;>cases h
 rename_i t
 refine⟨aj,ar,(([(0:Int)]=[(0:Int)]/\(1:Nat)<=(t::([]:D3)).length/\(t::([]:D3)).length<=(1000:Nat)/\(t::([]:D3)).length=(t::([]:D3)).length/\(1:Nat)<=nT (t::([]:D3))/\nT (t::([]:D3))<=(12:Nat)/\bH (nT (t::([]:D3))) (t::([]:D3))/\bH (nT (t::([]:D3))) (t::([]:D3))/\(1:Int)<=(1000000:Int)/\(1000000:Int)<=(1000000:Int))/\True)/\gX (t::([]:D3)) (t::([]:D3)) (1000000:Int)=aa t/\True,by kernel_rfl,?_⟩
 simp only[aJ]at ξ⊢;obtain⟨h1,h2,h3⟩:=iN ξ;have e:nT [t]=t.length:=rfl
 have T:bH (nT [t]) [t]:=fun k hk=>by
  have:k=0:=by simp at hk;omega
  subst this;refine⟨rfl,fun x hx=>⟨(h3 x hx).1,fun y hy=>?_⟩⟩
  have:=(h3 x hx).2 y hy
  have e2:en t x y=(t.getD x []).getD y 0:=rfl
  show 0<=en t x y/\en t x y<(t.length:Int)
  omega
 exact⟨⟨by omega,by omega,by omega,by omega,T,T,by omega,by omega⟩,rfl⟩
theorem Lf:∀(a b:D1),a.length=b.length->bh a b=true->∃i,i<a.length/\(∀j,j<i->a.getD j 0=b.getD j 0)/\a.getD i 0<b.getD i 0
 | [],[],_,h=>by cases h
 | [],_::_,hl,_=>by simp at hl
 |_::_,[],hl,_=>by simp at hl
 |x::a,y::b,hl,h=>by
  rw[bh]at h;by_cases e:x=y
  ·rw[AA e]at h
   obtain⟨i,h1,h2,h3⟩:=Lf a b (by simpa using hl) h
   refine⟨i+1,by simp;omega,fun j hj=>?_,h3⟩
   cases j with
   |zero=>exact e
   |succ j=>exact h2 j (by omega)
  ·rw[AB e]at h
   exact⟨0,by simp,fun j hj=>by omega,Bz h⟩
def cF(n:Nat):D1:=au n fun i=>(i:Int)
theorem fK{p q:D1}{i:Nat}(h:i<p.length):(aE p q).getD i 0=q.getD (p.getD i 0).toNat 0:=jT _ _ _ _ _ h
theorem fL(p q:D1):(aE p q).length=p.length:=by simp[aE]
theorem pI{g:D1}(hn:g.Nodup){i j:Nat}(hi:i<g.length)(hj:j<g.length)(e:g.getD i 0=g.getD j 0):i=j:=by
 rw[bv g 0 i hi,bv g 0 j hj]at e;exact(CH hn).1 e
theorem Us{n:Nat}{g:D1}(hl:g.length=n)(hr:∀i,i<n->0<=g.getD i 0)(hn:g.Nodup):bh g (cF n)=false:=by
 cases e:bh g (cF n)with
 |false=>rfl
 |true =>
  exfalso
  obtain⟨i,h1,h2,h3⟩:=Lf g (cF n) (by rw[hl,cF,ep]) e
  have u:∀j,j<n->(cF n).getD j 0=(j:Int):=fun j hj=>er _ _ _ hj
  rw[u i (by omega)]at h3
  have h0:=hr i (by omega)
  have hj:=h2 (g.getD i 0).toNat (by omega)
  rw[u _ (by omega)]at hj
  have:g.getD (g.getD i 0).toNat 0=g.getD i 0:=by omega
  have:=pI hn (i:=(g.getD i 0).toNat) (j:=i) (by omega) h1 this
  omega
section
variable {n:Nat} {t:D2}
theorem Lg(ht:aA n t):isoL n [t] [t] (cF n) where
 len:=ep _ _
 rng i hi:=by rw[cF,er _ _ _ hi];omega
 nd:=by
  rw[cF,au,List.Nodup,BE];exact(Bb (n:=n)).imp fun {x y} h e=>h (by omega)
 ok k x y hk hx hy hv:=by
  have k0:k=0:=by simp at hk;omega
  subst k0;have hx:x<n:=by rwa[cF,ep]at hx
  have hy:y<n:=by rwa[cF,ep]at hy
  have e:[t].getD 0 []=t:=rfl
  rw[e]at hv⊢;have v:=(ht.2 x hx).2 y hy
  rw[cF,er _ _ _ hx,er _ _ _ hy,er _ _ _ (by omega),Am,Am,C3 v.1]
theorem kU(ht:aA n t){g h:D1}(hg:isoL n [t] [t] g)(hh:isoL n [t] [t] h):isoL n [t] [t] (aE g h) where
 len:=by rw[fL];exact hg.len
 rng i hi:=by
  rw[fK (by rw[hg.len];exact hi)]
  have:=hg.rng i hi
  exact hh.rng _ (by omega)
 nd:=by
  have G:=hg.g (fun k hk=>by have k0:k=0:=(by simp at hk;omega);subst k0;exact ht)
  have H:=hh.g (fun k hk=>by have k0:k=0:=(by simp at hk;omega);subst k0;exact ht)
  have gl:=hg.len
  rw[List.Nodup,BD];intro i j hi hj hij e
  rw[fL]at hi hj;rw[<-bv _ 0 i (by rw[fL];exact hi),<-bv _ 0 j (by rw[fL];exact hj),fK hi,fK hj]at e
  have a:=hg.rng i (by omega)
  have b:=hg.rng j (by omega)
  have a2:=hh.rng (g.getD i 0).toNat (by omega)
  have b2:=hh.rng (g.getD j 0).toNat (by omega)
  have q:=H.inj (g.getD i 0).toNat (g.getD j 0).toNat (by omega) (by omega) (by rw[e])
  have:=G.inj i j (by omega) (by omega) q
  omega
 ok k x y hk hx hy hv:=by
  have k0:k=0:=by simp at hk;omega
  subst k0;have gl:=hg.len
  have hl:=hh.len
  rw[fL]at hx hy hv;have e:[t].getD 0 []=t:=rfl
  rw[e]at hv⊢;have v:=(ht.2 x (by omega)).2 y (by omega)
  have a:=hg.rng x (by omega)
  have b:=hg.rng y (by omega)
  rw[fK (by omega),fK (by omega),fK (by omega)]
  have o1:=hg.ok 0 x y (by simp) (by omega) (by omega) (by rw[e];omega)
  rw[e]at o1;rw[o1];have w:=(ht.2 (g.getD x 0).toNat (by omega)).2 (g.getD y 0).toNat (by omega)
  have o2:=hh.ok 0 (g.getD x 0).toNat (g.getD y 0).toNat (by simp) (by omega) (by omega) (by rw[e];omega)
  rw[e]at o2;exact o2
theorem ml(ht:aA n t):bH n [t]:=fun k hk=>by
 have k0:k=0:=by simp at hk;omega
 subst k0;exact ht
theorem zM(ht:aA n t)(hn:1<=n):AuOk n (ff n [t] [t])/\(ff n [t] [t]).getD 0 []=cF n:=by
 have T:=ml ht
 have U:cF n∈ff n [t] [t]:=(pO T hn).2 ⟨Lg ht,by rw[cF,er _ _ _ (by omega)];rfl⟩
 have I:∀i,i<(ff n [t] [t]).length->isoL n [t] [t] ((ff n [t] [t]).getD i [])/\((ff n [t] [t]).getD i []).getD 0 0=0:=fun i hi=>(pO T hn).1 (bI _ [] i hi)
 have P:1<=(ff n [t] [t]).length:=CW U
 refine⟨⟨P,fun i hi=>(I i hi).1.len,fun i x hi hx=>(I i hi).1.rng x hx,fun i j hi hj=>(pO T hn).2 ⟨kU ht (I i hi).1 (I j hj).1,?_⟩⟩,?_⟩
 ·have a:=(I i hi).1.len
  rw[fK (by omega),(I i hi).2];exact(I j hj).2
 ·obtain⟨j,hj,e⟩:=Aw U
  by_cases j0:j=0
  ·subst j0;rw[bv _ [] 0 hj,e]
  ·exfalso
   have S:=BD.1 (Mc n [t] [t]) 0 j (by omega) hj (by omega)
   have a:=(I 0 (by omega)).1
   rw[bv _ [] 0 (by omega)]at a
   have:=Us a.len (fun i hi=>(a.rng i hi).1) a.nd
   rw[e]at S;rw[S]at this;cases this
theorem s8(ht:aA n t)(hn:1<=n)(h:(aa t).length<=999999):aa t=ff n [t] [t]:=by
 have e:nT [t]=n:=ht.1
 have T:=ml ht
 have E:aa t=(ff n [t] [t]).take 1000000:=by
  rw[aa,gX,AA rfl,e];exact Mb T rfl hn (by omega)
 rw[E,AT]at h;rw[E,AU (by omega)]
theorem mm(ht:aA n t)(hn:1<=n)(h:(aa t).length<=999999):AuOk n (aa t)/\gP (aa t) 0 0=0:=by
 rw[s8 ht hn h];obtain⟨a,b⟩:=zM ht hn;refine⟨a,?_⟩
 have th:aE (cF n) (cF n)=cF n:=by
  refine ic (by rw[fL]) fun i hi=>?_
  rw[fL,cF,ep]at hi;rw[fK (by rw[cF,ep];exact hi),cF,er _ _ _ hi,Am,er _ _ _ hi]
 have z:(0:Int).toNat=0:=rfl
 rw[gP,z,b,th];exact pQ 0 (fun j hj=>by omega) (by have:=a.pos;omega) b
end
def ta:List AD->Option Post
 | [.c (.ints .i64 a),.c (.ints .i64 b)]=>some ⟨a.length<=9223372036854775807/\b.length<=9223372036854775807,.c (.bool (decide (a=b))),[]⟩
 |_=>none
def Lh(a:D1)(b:D1):Nat->Option Ann
 |0=>Q' fun i=>⟨⟨[(0,D' a),(1,D' b),(12,A' a.length),(13,A' i)],[]⟩,i<=a.length/\a.length=b.length/\decide (a=b)=decide (a.drop i=b.drop i),a.length-i⟩
 |_=>none
theorem Lj:Fits Tryz.prog 92 ⟨[],ta⟩:=by
 refine ffv (Γ:=ah []) aI Tryz.func92 fun ds p h ξ=>?_
 unfold ta at h;split at h<;>cases h
 rename_i a b
 refine⟨aj,Lh a b,ab ((a.length:Int) != (b.length:Int)) (false=decide (a=b)/\True) ((∃x0:Nat,(x0<=a.length/\a.length=b.length/\decide (a=b)=decide (List.drop x0 a=List.drop x0 b))/\a=a/\b=b/\(a.length:Int)=(a.length:Int)/\(0:Int)=(x0:Int))/\∀x1:Nat,x1<=a.length/\a.length=b.length/\decide (a=b)=decide (List.drop x1 a=List.drop x1 b)->ab (decide ((x1:Int)<(a.length:Int))) (ac (x1:Int) a.length/\ac (x1:Int) b.length/\ab (a.getD (x1:Int).toNat (0:Int) != b.getD (x1:Int).toNat (0:Int)) (false=decide (a=b)/\True) (af ((x1:Int)+(1:Int))/\∃x2:Nat,(x2<=a.length/\a.length=b.length/\decide (a=b)=decide (List.drop x2 a=List.drop x2 b))/\a.length-x2<a.length-x1/\a=a/\b=b/\(a.length:Int)=(a.length:Int)/\(x1:Int)+(1:Int)=(x2:Int))) (true=decide (a=b)/\True)),by kernel_rfl,?_⟩
 simp only[aJ]at ξ⊢;refine⟨fun h=>?_,fun h=>⟨⟨0,⟨by omega,by omega,rfl⟩,rfl⟩,fun i ⟨hi,hl,he⟩=>⟨fun h2=>?_,fun h2=>?_⟩⟩⟩
 ·exact(Ae fun e=>h (by rw[e])).symm
 ·have ea:=drop_cons' a 0 i (by omega)
  have eb:=drop_cons' b 0 i (by omega)
  refine⟨by omega,by omega,fun h3=>?_,fun h3=>⟨by omega,i+1,⟨by omega,hl,?_⟩,by omega,by omega⟩⟩
  ·rw[he,ea,eb]
   exact(Ae fun e=>h3 (by injection e)).symm
  ·rw[he,ea,eb,h3]
   simp
 ·rw[he,CU (by omega),CU (by omega)];rfl
def tg:List AD->Option Post
 | [.c (.ints .i64 p),.c (.ints .i64 q)]=>some ⟨p.length<=1000/\gv q.length p,.c (.ints 2 .i64 (aE p q)),[]⟩
 |_=>none
def Lk(p:D1)(q:D1):Nat->Option Ann
 |0=>Q' fun i=>⟨⟨[(0,D' p),(1,D' q),(5,J' 10),(11,D' p),(12,A' p.length),(13,A' i)],[(10,O' (((aE p q).take i++List.replicate ((aE p q).length-i) 0)))]⟩,i<=p.length,p.length-i⟩
 |_=>none
theorem Lm:Fits Tryz.prog 88 ⟨[],tg⟩:=by
 refine ffv (Γ:=ah []) aI Tryz.func88 fun ds p h ξ=>?_
 unfold tg at h;split at h<;>cases h
 rename_i p q
 refine⟨aj,Lk p q,((0:Int)<=(p.length:Int)/\(p.length:Int)<=(p.length:Int)/\am ((p.length:Int).toNat))/\(∃x0:Nat,x0<=p.length/\p=p/\q=q/\p=p/\(p.length:Int)=(p.length:Int)/\(0:Int)=(x0:Int)/\List.replicate ((p.length:Int).toNat) (0:Int)=List.take x0 (aE p q)++List.replicate ((aE p q).length-x0) (0:Int))/\∀x1:Nat,x1<=p.length->ab (decide ((x1:Int)<(p.length:Int))) (ac (x1:Int) p.length/\ac (p.getD (x1:Int).toNat (0:Int)) q.length/\ac (x1:Int) ((List.take x1 (aE p q)++List.replicate ((aE p q).length-x1) (0:Int)).length)/\af ((x1:Int)+(1:Int))/\∃x2:Nat,x2<=p.length/\p.length-x2<p.length-x1/\p=p/\q=q/\p=p/\(p.length:Int)=(p.length:Int)/\(x1:Int)+(1:Int)=(x2:Int)/\List.set (List.take x1 (aE p q)++List.replicate ((aE p q).length-x1) (0:Int)) (x1:Int).toNat (q.getD ((p.getD (x1:Int).toNat (0:Int)).toNat) (0:Int))=List.take x2 (aE p q)++List.replicate ((aE p q).length-x2) (0:Int)) (List.take x1 (aE p q)++List.replicate ((aE p q).length-x1) (0:Int)=aE p q/\True),by kernel_rfl,?_⟩
 simp only[aJ]at ξ⊢;obtain⟨h1,h3⟩:=ξ;have hl:=fL p q
 refine⟨by omega,⟨0,by omega,rfl,ad2 _ _ _ hl⟩,fun i hi=>⟨fun h=>?_,fun h=>?_⟩⟩
 ·have hr:=h3 i (by omega)
  refine⟨by omega,by omega,by omega,by omega,i+1,by omega,by omega,by omega,?_⟩
  rw[<-wU (aE p q) 0 0 i (by omega),fK (by omega)]
 ·exact ad3 _ _ _ (by omega)
end Go.Sx
