/- Hol -/
import Derived.Test.YtkmldclpaniclaaGreatEqt
import Derived.Test.YtkmldclpaniclaaGreatCrcG
import Derived.Test.YtkmldclpaniclaaGreatCrcC
import Derived.Test.YtkmldclpaniclaaGreatGrpC
set_option linter.unusedSimpArgs false
set_option linter.unusedVariables false
set_option linter.defProp false
open Go Go.Proofs
namespace Go.Sx
structure SolK (n:Nat) (t A:D2) (K:D1):Prop where
 len:K.length=n
 rng:∀x,x<n->0<=K.getD x 0/\K.getD x 0<(A.length:Int)
 fit:∀x y,x<n->y<n->K.getD (bP t A K x y) 0=dN A K x y
def cU(n:Nat)(K K':D1):Prop:=∀x,x<n->0<=K.getD x 0->K'.getD x 0=K.getD x 0
theorem cU.refl(n:Nat)(K:D1):cU n K K:=fun _ _ _=>rfl
theorem cU.trans{n:Nat}{a b c:D1}(h:cU n a b)(k:cU n b c):cU n a c:=fun x hx h0=>by
 have e:=h x hx h0
 rw[k x hx (by rw[e];exact h0),e]
theorem f4{K:D1}{z x:Nat}{w:Int}(hz:z<K.length):(K.set z w).getD x 0=if x=z then w else K.getD x 0:=by
 by_cases e:x=z
 ·subst e;rw[AA rfl];simp[List.getD,hz]
 ·rw[AB e];simp[List.getD,A8 (AM e)]
section
variable {n:Nat} {t A:D2}
theorem SolK.ok{K:D1}(h:SolK n t A K):KOk n A.length K:=⟨h.len,fun x hx=>by have:=h.rng x hx;omega⟩
theorem cU.zz{K K':D1}(h:cU n K K'){x y:Nat}(hx:x<n)(h0:0<=K.getD x 0):bP t A K' x y=bP t A K x y:=by
 unfold bP;rw[h x hx h0]
theorem cU.ww{K K':D1}(h:cU n K K'){x y:Nat}(hx:x<n)(hy:y<n)(h0:0<=K.getD x 0)(h1:0<=K.getD y 0):dN A K' x y=dN A K x y:=by
 unfold dN;rw[h x hx h0,h y hy h1]
theorem UY(ht:aA n t)(hA:AuOk n A){K S:D1}(hK:KOk n A.length K)(hS:SolK n t A S)(hs:cU n K S){x y:Nat}(hx:x<n)(hy:y<n):∃K',fI t A K x y=some K'/\KOk n A.length K'/\cU n K K'/\cU n K' S:=by
 unfold fI;split
 ·exact⟨K,rfl,hK,.refl _ _,hs⟩
 ·rename_i hn
  have h1:0<=K.getD x 0:=by omega
  have h2:0<=K.getD y 0:=by omega
  have w:=nQ hA hK hx hy h1 h2
  have z:=mi ht hA hK hx hy h1
  have f:=hS.fit x y hx hy
  rw[hs.zz hx h1,hs.ww hx hy h1 h2]at f;split
  ·rename_i hz
   have hzl:bP t A K x y<K.length:=by rw[hK.len];exact z.2.2
   refine⟨_,rfl,hK.set _ ⟨by omega,w.2.2⟩,fun u hu h0=>?_,fun u hu h0=>?_⟩
   ·rw[f4 hzl]
    split
    ·rename_i e;subst e;omega
    ·rfl
   ·rw[f4 hzl]at h0⊢
    split
    ·rename_i e;rw[e];exact f
    ·rename_i e;rw[AB e]at h0;exact hs u hu h0
  ·rename_i hz
   have:=hs _ z.2.2 (by omega)
   rw[AA (by rw[<-this];exact f)]
   exact⟨K,rfl,hK,.refl _ _,hs⟩
theorem LP(ht:aA n t)(hA:AuOk n A){K S:D1}(hK:KOk n A.length K)(hS:SolK n t A S)(hs:cU n K S){x:Nat}(hx:x<n):∀y,y<=n->∃K',dz t A K x y=some K'/\KOk n A.length K'/\cU n K K'/\cU n K' S
 |0,_=>⟨K,rfl,hK,.refl _ _,hs⟩
 |y+1,hy=>by
  obtain⟨K1,h1,h2,h3,h4⟩:=LP ht hA hK hS hs hx y (by omega)
  obtain⟨K2,k1,k2,k3,k4⟩:=UY ht hA h2 hS h4 hx (y:=y) (by omega)
  exact⟨K2,by rw[dz,h1];exact k1,k2,h3.trans k3,k4⟩
theorem LQ(ht:aA n t)(hA:AuOk n A){K S:D1}(hK:KOk n A.length K)(hS:SolK n t A S)(hs:cU n K S):∀x,x<=n->∃K',eu t A K x=some K'/\KOk n A.length K'/\cU n K K'/\cU n K' S
 |0,_=>⟨K,rfl,hK,.refl _ _,hs⟩
 |x+1,hx=>by
  obtain⟨K1,h1,h2,h3,h4⟩:=LQ ht hA hK hS hs x (by omega)
  obtain⟨K2,k1,k2,k3,k4⟩:=LP ht hA h2 hS h4 (x:=x) (by omega) t.length (by rw[ht.1];exact AE _)
  exact⟨K2,by rw[eu,h1];exact k1,k2,h3.trans k3,k4⟩
theorem D8(ht:aA n t)(hA:AuOk n A){S:D1}(hS:SolK n t A S):∀(fu:Nat) {K:D1},KOk n A.length K->cU n K S->∃K',eV t A fu K=some K'/\cU n K' S
 |0,K,_,hs=>⟨K,rfl,hs⟩
 |fu+1,K,hK,hs=>by
  obtain⟨K1,h1,h2,h3,h4⟩:=LQ ht hA hK hS hs t.length (by rw[ht.1];exact AE _)
  rw[eV,h1];simp only;split
  ·exact D8 ht hA hS fu h2 h4
  ·exact⟨K1,rfl,h4⟩
/- The spread keeps what is known. -/
theorem UZ(ht:aA n t)(hA:AuOk n A){K K':D1}(hK:KOk n A.length K){x y:Nat}(hx:x<n)(hy:y<n)(h:fI t A K x y=some K'):cU n K K'/\(K'=K\/az K'<az K)/\(K'=K->K.getD x 0<0\/K.getD y 0<0\/(0<=K.getD (bP t A K x y) 0/\K.getD (bP t A K x y) 0=dN A K x y)):=by
 unfold fI at h;split at h
 ·rename_i h0
  cases h;exact⟨.refl _ _,.inl rfl,fun _=>h0.elim .inl fun h=>.inr (.inl h)⟩
 ·rename_i hn
  have h1:0<=K.getD x 0:=by omega
  have h2:0<=K.getD y 0:=by omega
  have w:=nQ hA hK hx hy h1 h2
  have z:=mi ht hA hK hx hy h1
  have hzl:bP t A K x y<K.length:=by rw[hK.len];exact z.2.2
  split at h
  ·rename_i hz
   cases h;have hl:=pF (K:=K) (z:=bP t A K x y) hzl hz w.2.1
   refine⟨fun u hu h0=>?_,.inr (by omega),fun e=>?_⟩
   ·rw[f4 hzl]
    split
    ·rename_i e;subst e;omega
    ·rfl
   ·rw[e]at hl;omega
  ·rename_i hz
   split at h
   ·rename_i he
    cases h;exact⟨.refl _ _,.inl rfl,fun _=>.inr (.inr ⟨by omega,he⟩)⟩
   ·cases h
def pM(t A:D2)(K:D1)(x y:Nat):Prop:=K.getD x 0<0\/K.getD y 0<0\/(0<=K.getD (bP t A K x y) 0/\K.getD (bP t A K x y) 0=dN A K x y)
theorem LR(ht:aA n t)(hA:AuOk n A){K:D1}(hK:KOk n A.length K){x:Nat}(hx:x<n):∀(y:Nat) {K':D1},y<=n->dz t A K x y=some K'->cU n K K'/\(K'=K\/az K'<az K)/\(K'=K->∀y',y'<y->pM t A K x y')
 |0,K',_,h=>by cases h;exact⟨.refl _ _,.inl rfl,fun _ y' hy'=>by omega⟩
 |y+1,K',hy,h=>by
  rw[dz]at h;obtain⟨K1,h1,h2⟩:=Cz.1 h;obtain⟨a1,a2,a3⟩:=LR ht hA hK hx y (by omega) h1
  have ok:=(sS ht hA hK hx y (by omega) h1).1
  obtain⟨b1,b2,b3⟩:=UZ ht hA ok hx (by omega) h2
  have b4:=(KX ht hA ok hx (by omega) h2).2
  refine⟨a1.trans b1,?_,fun e y' hy'=>?_⟩
  ·rcases a2 with rfl|a2
   ·exact b2
   ·exact .inr (by omega)
  ·have e1:K1=K:=by
    rcases a2 with a2|a2
    ·exact a2
    ·rw[e]at b4;omega
   subst e1;by_cases ey:y'=y
   ·subst ey;exact b3 e
   ·exact a3 rfl y' (by omega)
theorem LS(ht:aA n t)(hA:AuOk n A){K:D1}(hK:KOk n A.length K):∀(x:Nat) {K':D1},x<=n->eu t A K x=some K'->cU n K K'/\(K'=K\/az K'<az K)/\(K'=K->∀x',x'<x->∀y,y<n->pM t A K x' y)
 |0,K',_,h=>by cases h;exact⟨.refl _ _,.inl rfl,fun _ y' hy'=>by omega⟩
 |x+1,K',hx,h=>by
  rw[eu]at h;obtain⟨K1,h1,h2⟩:=Cz.1 h;obtain⟨a1,a2,a3⟩:=LS ht hA hK x (by omega) h1
  have ok:=(sT ht hA hK x (by omega) h1).1
  have hn:t.length<=n:=by rw[ht.1];exact AE _
  obtain⟨b1,b2,b3⟩:=LR ht hA ok (x:=x) (by omega) t.length hn h2
  have b4:=(sS ht hA ok (x:=x) (by omega) t.length hn h2).2
  refine⟨a1.trans b1,?_,fun e x' hx' y hy=>?_⟩
  ·rcases a2 with rfl|a2
   ·exact b2
   ·exact .inr (by omega)
  ·have e1:K1=K:=by
    rcases a2 with a2|a2
    ·exact a2
    ·rw[e]at b4;omega
   subst e1;by_cases ex:x'=x
   ·subst ex;exact b3 e y (by rw[ht.1];exact hy)
   ·exact a3 rfl x' (by omega) y hy
theorem D9(ht:aA n t)(hA:AuOk n A):∀(fu:Nat) {K K':D1},KOk n A.length K->az K<fu->eV t A fu K=some K'->cU n K K'/\∀x,x<n->∀y,y<n->pM t A K' x y
 |0,K,K',_,h,_=>by omega
 |fu+1,K,K',hK,hn,h=>by
  rw[eV]at h;split at h
  ·cases h
  ·rename_i K1 h1
   have hl:t.length<=n:=by rw[ht.1];exact AE _
   obtain⟨a1,a2,a3⟩:=LS ht hA hK t.length hl h1;have ok:=(sT ht hA hK t.length hl h1).1
   split at h
   ·rename_i ψ
    obtain⟨b1,b2⟩:=D9 ht hA fu ok (by omega) h
    exact⟨a1.trans b1,b2⟩
   ·rename_i hge
    have h:K1=K':=BJ h
    subst h;have e:K1=K:=a2.resolve_right hge
    subst e;exact⟨a1,fun x hx y hy=>a3 rfl x (by rw[ht.1];exact hx) y hy⟩
theorem U0{K:D1}(h:az K=0){x:Nat}(hx:x<K.length):0<=K.getD x 0:=by
 have:=C6.1 h (K.getD x 0) (by rw[List.getD,AF hx];exact A7 hx)
 simpa using this
theorem U1{K:D1}(hK:KOk n A.length K)(hz:∀x,x<n->0<=K.getD x 0)(h:∀x,x<n->∀y,y<n->pM t A K x y):SolK n t A K :=
 ⟨hK.len,fun x hx=>⟨hz x hx,(hK.rng x hx).2⟩,fun x y hx hy=>by
  rcases h x hx y hy with h|h|h
  ·have:=hz x hx;omega
  ·have:=hz y hy;omega
  ·exact h.2⟩
def fx(t A:D2):Nat->D1->D2
 |0,_=>[]
 |d+1,K=>if aB K=K.length then [K]else(List.range A.length).flatMap fun i:Nat=>match da t A (K.set (aB K) (i:Int))with
  |none=>[]
  |some K'=>fx t A d K'
theorem Ea:∀(d:Nat) (K:D1) (out:D3),cr t A d K out=((fx t A d K).map (bK t A)).foldl fJ out
 |0,K,out=>rfl
 |d+1,K,out=>by
  rw[cr,fx];split
  ·rfl
  ·have:∀m,dH (db t A (cr t A d) K) out m=(((List.range m).flatMap fun i:Nat=>match da t A (K.set (aB K) (i:Int))with
       |none=>[]
       |some K'=>fx t A d K').map (bK t A)).foldl fJ out:=by
    intro m
    induction m with
    |zero=>rfl
    |succ m ih =>
     rw[dH,ih,Bo,CO,Bf,List.foldl_append];simp only[Bg,C7,Ac,db];cases da t A (K.set (aB K) (m:Int))with
     |none=>rfl
     |some K'=>exact Ea d K' _
   exact this A.length
theorem LT(ht:aA n t)(hA:AuOk n A):∀(d:Nat) (K:D1),KOk n A.length K->az K<d->(az K=0->SolK n t A K)->(∀S,S∈fx t A d K↔SolK n t A S/\cU n K S)/\(fx t A d K).Nodup
 |0,K,_,h,_=>by omega
 |d+1,K,hK,hd,hz=>by
  rw[fx];by_cases hp:aB K=K.length
  ·rw[AA hp]
   have all:=pG K hp
   have z:az K=0:=C6.2 fun k hk=>by
    obtain⟨j,hj,rfl⟩:=BV.1 hk;have:=all j hj
    rw[bv _ _ _ hj]at this
    simpa using this
   refine⟨fun S=>?_,by simp⟩
   rw[As]
   constructor
   ·rintro rfl;exact⟨hz z,.refl _ _⟩
   ·rintro⟨h1,h2⟩
    refine ic (by rw[h1.len,hK.len]) fun i hi=>?_
    rw[h1.len]at hi;exact h2 i hi (all i (by rw[hK.len];exact hi))
  ·rw[AB hp]
   have ψ:aB K<K.length:=by have:=mj K;omega
   have hneg:=sV K ψ
   have hpn:aB K<n:=by rw[<-hK.len];exact ψ
   have br:∀i,i<A.length->∀K',da t A (K.set (aB K) (i:Int))=some K'->(∀S,S∈fx t A d K'↔SolK n t A S/\cU n K S/\S.getD (aB K) 0=(i:Int))/\(fx t A d K').Nodup:=fun i hi K' h=>by
    have hset:=hK.set (aB K) (w:=(i:Int)) ⟨by omega,by omega⟩
    obtain⟨g1,g2⟩:=kT ht hA hK ψ hi h;have hfu:az (K.set (aB K) (i:Int))<t.length+1:=by
     have:=zx (K.set (aB K) (i:Int))
     rw[hset.len]at this;rw[ht.1];omega
    obtain⟨f1,f2⟩:=D9 ht hA _ hset hfu h;have up:∀S,SolK n t A S->(cU n K' S↔cU n K S/\S.getD (aB K) 0=(i:Int)):=fun S hS=>by
     have base:cU n (K.set (aB K) (i:Int)) S↔cU n K S/\S.getD (aB K) 0=(i:Int):=by
      constructor
      ·intro k
       refine⟨fun x hx h0=>?_,?_⟩
       ·have e:=f4 (x:=x) (w:=(i:Int)) ψ
        have ne:x≠aB K:=fun e=>by rw[e]at h0;omega
        rw[AB ne]at e;rw[k x hx (by rw[e];exact h0),e]
       ·have e:=f4 (x:=aB K) (w:=(i:Int)) ψ
        rw[AA rfl]at e;rw[k _ hpn (by rw[e];omega),e]
      ·rintro⟨k1,k2⟩ x hx h0
       rw[f4 ψ]at h0⊢;split
       ·rename_i e;rw[e];exact k2
       ·rename_i e;rw[AB e]at h0;exact k1 x hx h0
     rw[<-base]
     constructor
     ·intro k;exact f1.trans k
     ·intro k
      obtain⟨K2,q1,q2⟩:=D8 ht hA hS (t.length+1) hset k;have h':eV t A (t.length+1) (K.set (aB K) (i:Int))=some K':=h
      rw[h']at q1;cases q1;exact q2
    obtain⟨i1,i2⟩:=LT ht hA d K' g1 (by omega) (fun z=>U1 g1 (fun x hx=>U0 z (by rw[g1.len];exact hx)) f2)
    exact⟨fun S=>by rw[i1 S];exact⟨fun k=>⟨k.1,(up S k.1).1 k.2⟩,fun k=>⟨k.1,(up S k.1).2 k.2⟩⟩,i2⟩
   constructor
   ·intro S
    rw[Aj]
    constructor
    ·rintro⟨i,hi,h⟩
     have hi:i<A.length:=by simpa using hi
     cases hq:da t A (K.set (aB K) (i:Int))with
     |none=>rw[hq]at h;cases h
     |some K' =>
      rw[hq]at h;have:=((br i hi K' hq).1 S).1 h
      exact⟨this.1,this.2.1⟩
    ·rintro⟨h1,h2⟩
     have r:=h1.rng _ hpn
     have e:S.getD (aB K) 0=((S.getD (aB K) 0).toNat:Int):=by omega
     refine⟨(S.getD (aB K) 0).toNat,Af.2 (by omega),?_⟩
     have hset:=hK.set (aB K) (w:=((S.getD (aB K) 0).toNat:Int)) ⟨by omega,by omega⟩
     obtain⟨K',q1,q2⟩:=D8 ht hA h1 (t.length+1) hset (fun x hx h0=>by
      rw[f4 ψ]at h0⊢;split
      ·rename_i e2;rw[e2];exact e
      ·rename_i e2;rw[AB e2]at h0;exact h2 x hx h0)
     have q1:da t A (K.set (aB K) ((S.getD (aB K) 0).toNat:Int))=some K':=q1
     rw[q1];exact((br _ (by omega) K' q1).1 S).2 ⟨h1,h2,e⟩
   ·refine CP.2 ⟨fun i hi=>?_,BZ (fun {i j} hi hj hne S hS S' hS' e=>?_) Bb⟩
    ·have hi:i<A.length:=by simpa using hi
     cases hq:da t A (K.set (aB K) (i:Int))with
     |none=>exact List.Pairwise.nil
     |some K'=>exact(br i hi K' hq).2
    ·have hi:i<A.length:=by simpa using hi
     have hj:j<A.length:=by simpa using hj
     subst e;cases hq:da t A (K.set (aB K) (i:Int))with
     |none=>rw[hq]at hS;cases hS
     |some K' =>
      cases hq2:da t A (K.set (aB K) (j:Int))with
      |none=>rw[hq2]at hS';cases hS'
      |some K2 =>
       rw[hq]at hS;rw[hq2]at hS';have a:=(((br i hi K' hq).1 S).1 hS).2.2
       have b:=(((br j hj K2 hq2).1 S).1 hS').2.2
       omega
end
def iT(t A:D2):Nat->D2->D3
 |0,_=>[]
 |d+1,L=>if L.length=t.length then [L]else(List.range A.length).flatMap fun i:Nat=>if iP t (L++[A.getD i []])=true then iT t A d (L++[A.getD i []])else []
theorem tI{t A:D2}:∀(d:Nat) (L:D2) (fd:D3),cB t A d L fd=fd++(iT t A d L).map (dM t)
 |0,L,fd=>by simp[cB,iT]
 |d+1,L,fd=>by
  rw[cB,iT];split
  ·rfl
  ·have:∀m,dS t A L (cB t A d) fd m=fd++((List.range m).flatMap fun i:Nat=>if iP t (L++[A.getD i []])=true then iT t A d (L++[A.getD i []])else []).map (dM t):=by
    intro m
    induction m with
    |zero=>simp[dS]
    |succ m ih =>
     rw[dS,Bo,CO,Bf,<-Ao,<-ih];simp only[Bg,C7,Ac];split
     ·exact tI d _ _
     ·simp
   exact this A.length
structure SolL (n:Nat) (t A L:D2):Prop where
 len:L.length=n
 mem:∀x,x<n->L.getD x []∈A
 fit:∀x y,x<n->y<n->L.getD (en t x (en L x y).toNat).toNat []=aE (L.getD y []) (L.getD x [])
theorem LU{t L:D2}:iP t L=true↔∀x y,x<L.length->y<L.length->(en t x (en L x y).toNat).toNat<L.length->L.getD (en t x (en L x y).toNat).toNat []=aE (L.getD y []) (L.getD x []):=by
 simp only[iP,nK,jY,AW,Af,BR,Cd,Bq,Ab]
 constructor
 ·intro h x y hx hy hz
  exact(h x hx y hy).resolve_left (by simpa using hz)
 ·intro h x hx y hy
  by_cases hz:(en t x (en L x y).toNat).toNat<L.length
  ·exact .inr (h x y hx hy hz)
  ·exact .inl hz
theorem tJ{L:D2}{k x:Nat}(hx:x<k):(L.take k).getD x []=L.getD x []:=by
 simp[List.getD,Az,hx]
section
variable {n:Nat} {t A:D2}
theorem SolL.pre{L:D2}(h:SolL n t A L){k:Nat}(hk:k<=n):iP t (L.take k)=true:=by
 have hl:(L.take k).length=k:=by rw[AT,h.len];omega
 refine LU.2 fun x y hx hy hz=>?_
 rw[hl]at hx hy hz;have e:en (L.take k) x y=en L x y:=by simp only[en];rw[tJ hx]
 rw[e]at hz⊢;rw[tJ hz,tJ hx,tJ hy];exact h.fit x y (by omega) (by omega)
theorem tK(ht:aA n t)(hA:AuOk n A)(hAn:A.Nodup):∀(d:Nat) (L:D2),L.length<=n->n<d+L.length->(∀r∈L,r∈A)->(L.length=n->SolL n t A L)->(∀S,S∈iT t A d L↔SolL n t A S/\S.take L.length=L)/\(iT t A d L).Nodup
 |0,L,h1,h2,_,_=>by omega
 |d+1,L,h1,h2,hL,hz=>by
  rw[iT];by_cases hp:L.length=t.length
  ·rw[AA hp]
   have hp:L.length=n:=by rw[hp,ht.1]
   refine⟨fun S=>?_,by simp⟩
   rw[As]
   constructor
   ·rintro rfl;exact⟨hz hp,Bh⟩
   ·rintro⟨k1,k2⟩
    rw[<-k2,hp,<-k1.len,Bh]
  ·rw[AB hp]
   have ψ:L.length<n:=by rw[ht.1]at hp;omega
   have br:∀i,i<A.length->iP t (L++[A.getD i []])=true->(∀S,S∈iT t A d (L++[A.getD i []])↔SolL n t A S/\S.take (L.length+1)=L++[A.getD i []])/\(iT t A d (L++[A.getD i []])).Nodup:=fun i hi hf=>by
    have hm:∀r∈L++[A.getD i []],r∈A:=fun r hr=>by
     rcases AI.1 hr with hr|hr
     ·exact hL r hr
     ·rw[As]at hr;rw[hr];exact bI A [] i hi
    have:=tK ht hA hAn d (L++[A.getD i []]) (by simp;omega) (by simp;omega) hm (fun e=>⟨e,fun x hx=>hm _ (bI _ [] x (by omega)),fun x y hx hy=>by
     have hxm:=hm _ (bI (L++[A.getD i []]) [] x (by omega))
     obtain⟨j,hj,ej⟩:=BV.1 hxm;have r:=hA.rng j y hj hy
     have e2:en (L++[A.getD i []]) x y=en A j y:=by simp only[en];rw[<-ej,bv A [] j hj]
     have z:=(ht.2 x hx).2 (en A j y).toNat (by omega)
     exact LU.1 hf x y (by omega) (by omega) (by rw[e2];omega)⟩)
    simpa using this
   constructor
   ·intro S
    rw[Aj]
    constructor
    ·rintro⟨i,hi,h⟩
     have hi:i<A.length:=by simpa using hi
     split at h
     ·rename_i hf
      obtain⟨q1,q2⟩:=((br i hi hf).1 S).1 h;refine⟨q1,?_⟩
      have:=A4 (List.take L.length) q2
      rw[C8,B9 (by omega)]at this
      rw[this];simp
     ·cases h
    ·rintro⟨q1,q2⟩
     obtain⟨i,hi,ei⟩:=BV.1 (q1.mem L.length ψ);have et:S.take (L.length+1)=L++[A.getD i []]:=by
      rw[bv A [] i hi,ei,<-q2];have:=dZ S [] L.length (by rw[q1.len];exact ψ)
      rw[AT,B9 (by rw[q1.len];omega)]
      exact this.symm
     have hf:=q1.pre (k:=L.length+1) (by omega)
     rw[et]at hf;exact⟨i,by simpa using hi,by rw[AA hf];exact((br i hi hf).1 S).2 ⟨q1,et⟩⟩
   ·refine CP.2 ⟨fun i hi=>?_,BZ (fun {i j} hi hj hne S hS S' hS' e=>?_) Bb⟩
    ·split
     ·rename_i hf;exact(br i (by simpa using hi) hf).2
     ·exact List.Pairwise.nil
    ·subst e
     have hi:i<A.length:=by simpa using hi
     have hj:j<A.length:=by simpa using hj
     split at hS
     ·rename_i hf
      split at hS'
      ·rename_i hf2
       have a:=(((br i hi hf).1 S).1 hS).2
       have b:=(((br j hj hf2).1 S).1 hS').2
       rw[a]at b;have b:=List.append_cancel_left b
       rw[bv _ _ _ hi,bv _ _ _ hj]at b;exact hne ((CH hAn).1 (List.cons.inj b).1)
      ·cases hS'
     ·cases hS
end
def bE(t A:D2)(a i:Nat):D2:=((List.range a).flatMap fun x=>A.map fun f=>aE f (t.getD x []))++(A.take i).map fun f=>aE f (t.getD a [])
theorem U2{t A:D2}{a i:Nat}(hi:i<A.length):bE t A a (i+1)=bE t A a i++[aE (A.getD i []) (t.getD a [])]:=by
 rw[bE,bE,Ao,<-dZ A [] i hi,Bf];rfl
theorem LV{t A:D2}{a:Nat}:bE t A a A.length=bE t A (a+1) 0:=by
 rw[bE,bE,Bh,List.take_zero,Cq,Ac,Bo,CO];simp
section
variable {n:Nat} {t:D2}
theorem gS(G:GrpT n t)(hn:n<=7){p:D1}(h:p∈aa t):isoL n [t] [t] p:=by
 rw[<-iO G hn]at h;have e:bC [t]=n:=G.tb.1
 have:=(((kS (jX G hn)).1 p).1 h).2
 rwa[e]at this
theorem iq(G:GrpT n t)(hn:n<=7):(aa t).length<=49:=by rw[<-iO G hn];exact zc G hn
theorem mq(G:GrpT n t)(hn:n<=7):(aa t).Nodup:=by
 rw[<-iO G hn];exact oc (kS (jX G hn)).2
theorem Eb(G:GrpT n t){f g:D1}(hf:isoL n [t] [t] f)(hg:isoL n [t] [t] g){x y:Nat}(hx:x<n)(hy:y<n)(e:aE f (t.getD x [])=aE g (t.getD y [])):x=y/\f=g:=by
 have get:∀z,z<n->gM t x (ap f z)=gM t y (ap g z):=fun z hz=>by
  have:(aE f (t.getD x [])).getD z 0=(aE g (t.getD y [])).getD z 0:=A4 (fun l:D1=>l.getD z 0) e
  rw[fK (by rw[hf.len];exact hz),fK (by rw[hg.len];exact hz)]at this
  exact A4 Int.toNat this
 have e0:x=y:=by
  have:=get 0 G.pos
  rw[gO G hf,gO G hg,G.z2 x hx,G.z2 y hy]at this;exact this
 refine⟨e0,?_⟩
 subst e0;refine ic (by rw[hf.len,hg.len]) fun i hi=>?_
 rw[hf.len]at hi;have:=G.can x (ap f i) (ap g i) hx (fb hf hi) (fb hg hi) (get i hi)
 have h1:=hf.rng i hi
 have h2:=hg.rng i hi
 simp only[ap]at this;omega
theorem LW{A:D2}{a i:Nat}{m:D1}(h:m∈bE t A a i):∃x f,(x<a\/x=a/\0<i)/\f∈A/\m=aE f (t.getD x []):=by
 rw[bE,AI]at h;rcases h with h|h
 ·obtain⟨x,hx,h⟩:=Aj.1 h
  obtain⟨f,hf,rfl⟩:=AH.1 h;exact⟨x,f,.inl (by simpa using hx),hf,rfl⟩
 ·obtain⟨f,hf,rfl⟩:=AH.1 h
  refine⟨a,f,.inr ⟨rfl,?_⟩,Bv hf,rfl⟩
  cases i with
  |zero=>simp at hf
  |succ i=>omega
theorem LX(G:GrpT n t)(hn:n<=7){a i:Nat}(h:a<n\/a<=n/\i=0):(bE t (aa t) a i).Nodup:=by
 have mapN:∀(B:D2) (x:Nat),x<n->B.Nodup->(∀f∈B,f∈aa t)->(B.map fun f=>aE f (t.getD x [])).Nodup:=fun B x hx hB hs =>
  BE.2 (BZ (fun {f g} hf hg hne e=>hne (Eb G (gS G hn (hs f hf)) (gS G hn (hs g hg)) hx hx e).2) hB)
 rw[bE,Ad];refine⟨?_,?_,fun m hm m' hm' e=>?_⟩
 ·refine CP.2 ⟨fun x hx=>mapN _ x (by simp at hx;omega) (mq G hn) fun f hf=>hf,BZ (fun {x y} hx hy hne m hm m' hm' e=>?_) Bb⟩
  obtain⟨f,hf,rfl⟩:=AH.1 hm;obtain⟨g,hg,rfl⟩:=AH.1 hm';exact hne (Eb G (gS G hn hf) (gS G hn hg) (by simp at hx;omega) (by simp at hy;omega) e).1
 ·rcases h with h|⟨_,rfl⟩
  ·exact mapN _ a h ((C9 _ _).nodup (mq G hn)) fun f hf=>Bv hf
  ·simp
 ·obtain⟨x,hx,hm⟩:=Aj.1 hm
  obtain⟨f,hf,rfl⟩:=AH.1 hm;obtain⟨g,hg,rfl⟩:=AH.1 hm';have hx:x<a:=by simpa using hx
  have ha:a<n:=by
   rcases h with h|⟨_,rfl⟩
   ·exact h
   ·simp at hg
  have:=(Eb G (gS G hn hf) (gS G hn (Bv hg)) (by omega) ha e).1
  omega
theorem tL{α β:Type}(F:α->List β)(k:Nat):∀l:List α,(∀x∈l,(F x).length<=k)->(l.flatMap F).length<=l.length*k
 | [],_=>by simp
 |x::l,h=>by
  have:=tL F k l fun y hy=>h y (AO _ hy)
  have h0:=h x AX
  simp only[Bg,Ag,AS,BW];omega
theorem LY(G:GrpT n t)(hn:n<=7){a i:Nat}(h:a<=n):(bE t (aa t) a i).length<=400:=by
 have:=iq G hn
 rw[bE,Ag];have h1:=tL (fun x=>(aa t).map fun f=>aE f (t.getD x [])) 49 (List.range a) (fun x _=>by simpa using this)
 have h2:((aa t).take i).length<=49:=by rw[AT];omega
 have h3:(List.range a).length*49<=7*49:=Br 49 (by simp;omega)
 simp only[AR];omega
end
def n7(K:D2)(m:D1):D2:=K.take (cK K m)++m::K.drop (cK K m)
def fN(L:D2):D2:=L.foldl n7 []
theorem U3(L:D2)(m:D1):fN (L++[m])=n7 (fN L) m:=by simp[fN]
theorem U4(K:D2)(m:D1):(n7 K m).length=K.length+1:=by
 have:=EG K m
 simp only[n7,Ag,AT,AS,BG];omega
theorem LZ{K:D2}{m:D1}(h:¬ m∈K):n7 K m=fB K m:=by
 rw[fB,AB,n7]
 rintro⟨h1,h2⟩
 exact h (h2 ▸ bI K [] _ h1)
theorem Ec:∀(n:Nat) (L:D2),L.length=n->L.Nodup->eX (fN L)/\(∀x,x∈fN L↔x∈L)/\(fN L).length=L.length
 |0,L,h,_=>by
  have:L=[]:=Ay h
  subst this;exact⟨List.Pairwise.nil,fun x=>Iff.rfl,rfl⟩
 |n+1,L,h,hnd=>by
  have e:L=L.dropLast++[L.getLast (by intro h0;simp[h0]at h)]:=(List.dropLast_concat_getLast _).symm
  generalize L.getLast _=m at e
  generalize L.dropLast=M at e
  subst e;rw[Ad]at hnd;obtain⟨h1,h2,h3⟩:=Ec n M (by simpa using h) hnd.1
  have hm:¬ m∈fN M:=fun hm=>hnd.2.2 m ((h2 m).1 hm) m (by simp) rfl
  rw[U3];refine⟨by rw[LZ hm];exact EJ _ _ h1,fun x=>?_,by rw[U4,h3];simp⟩
  rw[LZ hm,uc,h2];simp[or_comm]
end Go.Sx
