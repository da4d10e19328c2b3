/- Soc -/
import Derived.Test.YtkmldclpaniclaaGreatIds
import Derived.Test.YtkmldclpaniclaaGreatQuot
set_option linter.unusedSimpArgs false
set_option linter.unusedVariables false
set_option linter.defProp false
open Go Go.Proofs
namespace Go.Sx
def vU:List AD->Option Post
 | [.agg [.rows .i64 a,.rows .i64 c],.c (.int .i64 s)]=>some ⟨cQ a s/\aM c=true/\c.length=a.length,.agg [.rows 62 2 .i64 (quo a (av a s)),.rows 62 2 .i64 (quo c (av a s))],[]⟩
 |_=>none
theorem Ol:Fits Tryz.prog 60 ⟨[],vU⟩:=by
 refine ffv (Γ:=af [(109,⟨[],E5⟩),(110,⟨[],Fd⟩)]) (aj Wf (aj Wq aG)) Tryz.func60 fun ds p h ξ=>?_
 unfold vU at h;split at h<;>cases h
 rename_i a c s
 refine⟨ah,ak,(cQ a s/\True)/\((aM a=true/\(av a s).length=a.length)/\True)/\((aM c=true/\(av a s).length=c.length)/\True)/\(quo a (av a s)=quo a (av a s)/\quo c (av a s)=quo c (av a s)/\True)/\True,by kernel_rfl,?_⟩
 simp only[aH]at ξ⊢;obtain⟨h1,h2,h3⟩:=ξ;have e:=jJ a s
 exact⟨h1,⟨h1.1,e⟩,h2,by omega⟩
def F7:List AD->Option Post
 | [.agg [.rows .i64 a,.rows .i64 c],.c (.int .i64 s)]=>some ⟨cQ a s/\aM c=true/\c.length=a.length,.agg [.rows 62 2 .i64 (quo a (av a s)),.rows 62 2 .i64 (quo c (av a s))],[]⟩
 |_=>none
theorem Yf:Fits Tryz.prog 63 ⟨[],F7⟩:=by
 refine ffv (Γ:=af [(112,⟨[],E7⟩),(113,⟨[],Fg⟩)]) (aj Wi (aj Wu aG)) Tryz.func63 fun ds p h ξ=>?_
 unfold F7 at h;split at h<;>cases h
 rename_i a c s
 refine⟨ah,ak,(cQ a s/\True)/\((aM a=true/\(av a s).length=a.length/\pR (av a s))/\True)/\((aM c=true/\(av a s).length=c.length/\pR (av a s))/\True)/\(quo a (av a s)=quo a (av a s)/\quo c (av a s)=quo c (av a s)/\True)/\True,by kernel_rfl,?_⟩
 simp only[aH]at ξ⊢;obtain⟨h1,h2,h3⟩:=ξ;have e:=jJ a s
 have n:pR (av a s):=Uf _
 exact⟨h1,⟨h1.1,e,n⟩,h2,by omega,n⟩
def gg(a c:Dc)(s:Int):Int:=if bM a c=true then(if 0<=s/\s<=1*2 ^ a.length-1 then 0 else 2)else 1
def F9:List AD->Option Post
 | [.agg [.rows .i64 a,.rows .i64 c],.c (.int .i64 s)]=>some ⟨aD a/\aD c,.c (.int .i64 (gg a c s)),[]⟩
 |_=>none
theorem Yi:Fits Tryz.prog 67 ⟨[],F9⟩:=by
 refine ffv (Γ:=af [(36,⟨[],nO⟩),(73,⟨[],pu⟩)]) (aj rZ (aj yf aG)) Tryz.func67 fun ds p h ξ=>?_
 unfold F9 at h;split at h<;>cases h
 rename_i a c s
 refine⟨ah,ak,((aD a/\aD c)/\True)/\ab (!bM a c) ((1:Int)=gg a c s/\True) ((((0:Int)<=(a.length:Int)/\(a.length:Int)<=(62:Int))/\ae ((1:Int)*(2:Int) ^ (a.length:Int).toNat))/\ae ((1:Int)*(2:Int) ^ (a.length:Int).toNat-(1:Int))/\(True/\True)/\ab (!decide ((0:Int)<=s/\s<=(1:Int)*(2:Int) ^ (a.length:Int).toNat-(1:Int))) ((2:Int)=gg a c s/\True) ((0:Int)=gg a c s/\True)),by kernel_rfl,?_⟩
 simp only[aH]at ξ⊢;refine⟨ξ,fun h=>by rw[gg,AB (by rw[h];decide)],fun h=>?_⟩
 have n2:=(bT (gC (jc h).1)).2.1
 have pn:(1*(2:Int) ^ a.length)=((2 ^ a.length:Nat):Int):=by rw[B8,Bv];rfl
 have p12:=pO n2
 have pp:=BW (2 ^ a.length)
 have e:gg a c s=if 0<=s/\s<=1*2 ^ a.length-1 then 0 else 2:=by rw[gg,AA h]
 rw[e];refine⟨⟨by omega,by rw[pn];omega,by rw[pn];omega⟩,⟨by rw[pn];omega,by rw[pn];omega⟩,fun h2=>by rw[AB h2],fun h2=>by rw[AA h2]⟩
def dJ(a c:Dc)(s:Int):(Dc×Dc)×Int :=
 if gg a c s=0 then(if gE a c s=true then((quo a (av a s),quo c (av a s)),0)else(([],[]),5))else(([],[]),gg a c s)
theorem Yj{a c:Dc}{s:Int}(h:gg a c s=0):eS a c/\cQ a s:=by
 unfold gg at h;split at h
 ·rename_i hb
  split at h
  ·rename_i hs
   have g:eS a c:=⟨(jc hb).1,(jc hb).2.1,(jc hb).2.2.1⟩
   have pn:(1*(2:Int) ^ a.length)=((2 ^ a.length:Nat):Int):=by rw[B8,Bv];rfl
   rw[pn]at hs;exact⟨g,gC g.1,hs.1,by omega⟩
  ·omega
 ·omega
theorem Oo(t:Dc)(cl:Db)(h:cl.length<=12):aD (quo t cl)/\(quo t cl).length<=1048576/\yj (quo t cl)<=1048576:=by
 have fl:=kA cl cl.length
 exact⟨pC _ _ (by omega),by rw[quo,fb];omega,An (ao4 _ _ (by omega)) (by omega)⟩
def Gb:List AD->Option Post
 | [.agg [.rows .i64 a,.rows .i64 c],.c (.int .i64 s)]=>some ⟨aD a/\aD c,.tup [.inr [.rows 62 2 .i64 ((dJ a c s).1.1),.rows 62 2 .i64 ((dJ a c s).1.2)],.inl (.int .i64 (dJ a c s).2)],[]⟩
 |_=>none
theorem Ym:Fits Tryz.prog 25 ⟨[],Gb⟩:=by
 refine ffv (Γ:=af [(67,⟨[],F9⟩),(69,⟨[],sf⟩),(68,⟨[],Di⟩),(60,⟨[],vU⟩)]) (aj Yi (aj Jt (aj Us (aj Ol aG)))) Tryz.func25 fun ds p h ξ=>?_
 unfold Gb at h;split at h<;>cases h
 rename_i a c s
 refine⟨ah,ak,((aD a/\aD c)/\True)/\ab (gg a c s != (0:Int)) (((([]:Dc)=((dJ a c s).1).1/\([]:Dc)=((dJ a c s).1).2/\True)/\gg a c s=(dJ a c s).2/\True)/\True) ((eS a c/\True)/\((eS a c/\aS a c=aS a c/\cQ a s)/\True)/\ab (!gE a c s) (((([]:Dc)=((dJ a c s).1).1/\([]:Dc)=((dJ a c s).1).2/\True)/\(5:Int)=(dJ a c s).2/\True)/\True) (((cQ a s/\aM c=true/\c.length=a.length)/\True)/\((quo a (av a s)=((dJ a c s).1).1/\quo c (av a s)=((dJ a c s).1).2/\True)/\(0:Int)=(dJ a c s).2/\True)/\True)),by kernel_rfl,?_⟩
 simp only[aH]at ξ⊢;refine⟨ξ,fun h=>by rw[dJ,AB h];exact⟨⟨rfl,rfl⟩,rfl⟩,fun h=>?_⟩
 obtain⟨g,so⟩:=Yj h;have e:dJ a c s=if gE a c s=true then((quo a (av a s),quo c (av a s)),0)else(([],[]),5):=by rw[dJ,AA h]
 rw[e];refine⟨g,⟨g,so⟩,fun h2=>by rw[AB (by rw[h2];decide)];exact⟨⟨rfl,rfl⟩,rfl⟩,fun h2=>⟨⟨so,gC g.2.1,g.2.2.symm⟩,by rw[AA h2];exact⟨⟨rfl,rfl⟩,rfl⟩⟩⟩
set_option linter.unusedSectionVars false
structure BrN (n:Nat) (A C:Nat->Nat->Nat):Prop where
 pos:0<n
 ain:∀x y,x<n->y<n->A x y<n
 cin:∀x y,x<n->y<n->C x y<n
 aas:∀x y z,x<n->y<n->z<n->A (A x y) z=A x (A y z)
 cas:∀x y z,x<n->y<n->z<n->C (C x y) z=C x (C y z)
 a0l:∀x,x<n->A 0 x=x
 a0r:∀x,x<n->A x 0=x
 c0l:∀x,x<n->C 0 x=x
 c0r:∀x,x<n->C x 0=x
 ainv:∀x,x<n->∃y,y<n/\A x y=0
 cinv:∀x,x<n->∃y,y<n/\C x y=0
 brc:∀x y z i,x<n->y<n->z<n->i<n->A x i=0->C x (A y z)=A (A (C x y) i) (C x z)
def ft(n:Nat)(A C:Nat->Nat->Nat)(t:Nat):Prop:=t<n/\∀z,z<n->C t z=A t z/\A t z=A z t
section
variable {n:Nat} {A C:Nat->Nat->Nat} (B:BrN n A C)
include B
theorem qo{x y:Nat}(hx:x<n)(hy:y<n)(h:A x y=0):A y x=0:=by
 obtain⟨z,hz,h2⟩:=B.ainv y hy;have:x=z:=by rw[<-B.a0r x hx,<-h2,<-B.aas x y z hx hy hz,h,B.a0l z hz]
 rw[this,h2]
theorem Gd{x y:Nat}(hx:x<n)(hy:y<n)(h:C x y=0):C y x=0:=by
 obtain⟨z,hz,h2⟩:=B.cinv y hy;have:x=z:=by rw[<-B.c0r x hx,<-h2,<-B.cas x y z hx hy hz,h,B.c0l z hz]
 rw[this,h2]
theorem Ge:ft n A C 0:=⟨B.pos,fun z hz=>⟨by rw[B.c0l z hz,B.a0l z hz],by rw[B.a0l z hz,B.a0r z hz]⟩⟩
theorem vY{x y:Nat}(hx:ft n A C x)(hy:ft n A C y):ft n A C (A x y):=by
 refine⟨B.ain x y hx.1 hy.1,fun z hz=>⟨?_,?_⟩⟩
 ·rw[<-(hx.2 y hy.1).1,B.cas x y z hx.1 hy.1 hz,(hy.2 z hz).1,(hx.2 _ (B.ain y z hy.1 hz)).1,(hx.2 y hy.1).1,B.aas x y z hx.1 hy.1 hz]
 ·rw[B.aas x y z hx.1 hy.1 hz,(hy.2 z hz).2,<-B.aas x z y hx.1 hz hy.1,(hx.2 z hz).2,B.aas z x y hz hx.1 hy.1]
theorem Yn{x y:Nat}(hx:ft n A C x)(hy:y<n)(h:A x y=0):ft n A C y:=by
 have h2:=qo B hx.1 hy h
 refine⟨hy,fun z hz=>⟨?_,?_⟩⟩
 ·have hw:=B.cin y z hy hz
  have e1:A x (C y z)=z:=by rw[<-(hx.2 _ hw).1,<-B.cas x y z hx.1 hy hz,(hx.2 y hy).1,h,B.c0l z hz]
  calc C y z=A 0 (C y z):=(B.a0l _ hw).symm
   _=A y (A x (C y z)):=by rw[<-h2,B.aas y x _ hy hx.1 hw]
   _=A y z:=by rw[e1]
 ·have hyz:=B.ain y z hy hz
  calc A y z=A (A y z) (A x y):=by rw[h,B.a0r _ hyz]
   _=A (A (A y z) x) y:=(B.aas _ x y hyz hx.1 hy).symm
   _=A (A y (A z x)) y:=by rw[B.aas y z x hy hz hx.1]
   _=A (A y (A x z)) y:=by rw[(hx.2 z hz).2]
   _=A (A (A y x) z) y:=by rw[<-B.aas y x z hy hx.1 hz]
   _=A z y:=by rw[h2,B.a0l z hz]
def eD(n:Nat)(A C:Nat->Nat->Nat)(x y:Nat):Prop:=∃t,ft n A C t/\A x t=y
theorem Yo{x:Nat}(hx:x<n):eD n A C x x:=⟨0,Ge B,B.a0r x hx⟩
theorem Ot{x y:Nat}(hx:x<n)(h:eD n A C x y):eD n A C y x:=by
 obtain⟨t,ht,rfl⟩:=h;obtain⟨i,hi,h2⟩:=B.ainv t ht.1;exact⟨i,Yn B ht hi h2,by rw[B.aas x t i hx ht.1 hi,h2,B.a0r x hx]⟩
theorem Gf{x y z:Nat}(hx:x<n)(h:eD n A C x y)(k:eD n A C y z):eD n A C x z:=by
 obtain⟨t,ht,rfl⟩:=h;obtain⟨u,hu,rfl⟩:=k;exact⟨A t u,vY B ht hu,(B.aas x t u hx ht.1 hu.1).symm⟩
theorem Ou{x x' y y':Nat}(hx:x<n)(hy:y<n)(h:eD n A C x x')(k:eD n A C y y'):eD n A C (A x y) (A x' y'):=by
 obtain⟨t,ht,rfl⟩:=h;obtain⟨u,hu,rfl⟩:=k;refine⟨A t u,vY B ht hu,?_⟩
 have h1:=ht.1
 have h2:=hu.1
 rw[B.aas x y _ hx hy (B.ain t u h1 h2),<-B.aas y t u hy h1 h2,<-(ht.2 y hy).2,B.aas t y u h1 hy h2,B.aas x t _ hx h1 (B.ain y u hy h2)]
theorem vZ{x u i:Nat}(hx:x<n)(hu:ft n A C u)(hi:i<n)(h:A x i=0):ft n A C (A i (C x u))/\A x (A i (C x u))=C x u:=by
 have h2:=qo B hx hi h
 have hcu:=B.cin x u hx hu.1
 have hl:=B.ain i _ hi hcu
 have e0:A x (A i (C x u))=C x u:=by rw[<-B.aas x i _ hx hi hcu,h,B.a0l _ hcu]
 obtain⟨j,hj,hxj⟩:=B.cinv x hx;have hjx:=Gd B hx hj hxj
 have hq:A (C x u) i<n:=B.ain _ i hcu hi
 have cen:∀z,z<n->A z (A (C x u) i)=A (A (C x u) i) z:=fun z hz=>by
  have hzx:=B.ain z x hz hx
  have hy:=B.cin j (A z x) hj hzx
  have ey:C x (C j (A z x))=A z x:=by rw[<-B.cas x j _ hx hj hzx,hxj,B.c0l _ hzx]
  have b1:=B.brc x _ u i hx hy hu.1 hi h
  have b2:=B.brc x u _ i hx hu.1 hy hi h
  rw[ey]at b1 b2;rw[(hu.2 _ hy).2,b1]at b2;have b3:A z (C x u)=A (A (C x u) i) (A z x):=by
   rw[<-b2,B.aas z x i hz hx hi,h,B.a0r z hz]
  have b4:=A8 (fun v=>A v i) b3
  rw[B.aas z _ i hz hcu hi,B.aas _ _ i hq hzx hi,B.aas z x i hz hx hi,h,B.a0r z hz]at b4;exact b4
 have el:A i (C x u)=A (C x u) i:=by
  have:=cen i hi
  calc A i (C x u)=A i (A (C x u) (A i x)):=by rw[h2,B.a0r _ hcu]
   _=A i (A (A (C x u) i) x):=by rw[B.aas _ i x hcu hi hx]
   _=A (A i (A (C x u) i)) x:=by rw[B.aas i _ x hi hq hx]
   _=A (A (A (C x u) i) i) x:=by rw[this]
   _=A (A (C x u) i) (A i x):=B.aas _ i x hq hi hx
   _=A (C x u) i:=by rw[h2,B.a0r _ hq]
 refine⟨⟨hl,fun z hz=>⟨?_,by rw[el];exact(cen z hz).symm⟩⟩,e0⟩
 have huj:=B.cin u j hu.1 hj
 have e1:C x (C u j)=A i (C x u):=by
  rw[(hu.2 j hj).1,B.brc x u j i hx hu.1 hj hi h,hxj,B.a0r _ hq,el]
 have hjz:=B.cin j z hj hz
 calc C (A i (C x u)) z=C x (C (C u j) z):=by rw[<-e1,B.cas x _ z hx huj hz]
  _=C x (C u (C j z)):=by rw[B.cas u j z hu.1 hj hz]
  _=C x (A u (C j z)):=by rw[(hu.2 _ hjz).1]
  _=A (A (C x u) i) (C x (C j z)):=B.brc x u _ i hx hu.1 hjz hi h
  _=A (A i (C x u)) z:=by rw[<-B.cas x j z hx hj hz,hxj,B.c0l z hz,el]
theorem Ov{x x' y y':Nat}(hx:x<n)(hy:y<n)(h:eD n A C x x')(k:eD n A C y y'):eD n A C (C x y) (C x' y'):=by
 obtain⟨t,ht,rfl⟩:=h;obtain⟨u,hu,rfl⟩:=k;obtain⟨i,hi,h2⟩:=B.ainv x hx;obtain⟨hl,el⟩:=vZ B hx hu hi h2;have hyu:=B.ain y u hy hu.1
 have hxy:=B.cin x y hx hy
 have hxyu:=B.cin x _ hx hyu
 have hcu:=B.cin x u hx hu.1
 refine⟨A (A i (C x u)) t,vY B hl ht,?_⟩
 have e1:C (A x t) (A y u)=A (C x (A y u)) t:=by
  rw[<-(ht.2 x hx).2,<-(ht.2 x hx).1,B.cas t x _ ht.1 hx hyu,(ht.2 _ hxyu).1,(ht.2 _ hxyu).2]
 have e2:C x (A y u)=A (C x y) (A i (C x u)):=by
  rw[B.brc x y u i hx hy hu.1 hi h2,B.aas _ i _ hxy hi hcu]
 rw[e1,e2,B.aas _ _ t hxy hl.1 ht.1]
end
theorem BrN.quot{n m:Nat}{A C:Nat->Nat->Nat}(B:BrN n A C){π f:Nat->Nat}(hm:0<m)(hπ:∀x,x<n->π x<m)(hf:∀x,x<m->f x<n/\π (f x)=x)(h0:π 0=0)
  (ha:∀x x' y y',x<n->y<n->x'<n->y'<n->π x=π x'->π y=π y'->π (A x y)=π (A x' y'))
  (hc:∀x x' y y',x<n->y<n->x'<n->y'<n->π x=π x'->π y=π y'->π (C x y)=π (C x' y')) :
  BrN m (fun x y=>π (A (f x) (f y))) (fun x y=>π (C (f x) (f y))):=by
 have ha':∀x y,x<n->y<n->π (A (f (π x)) (f (π y)))=π (A x y):=fun x y hx hy =>
  ha _ _ _ _ (hf _ (hπ x hx)).1 (hf _ (hπ y hy)).1 hx hy (hf _ (hπ x hx)).2 (hf _ (hπ y hy)).2
 have hc':∀x y,x<n->y<n->π (C (f (π x)) (f (π y)))=π (C x y):=fun x y hx hy =>
  hc _ _ _ _ (hf _ (hπ x hx)).1 (hf _ (hπ y hy)).1 hx hy (hf _ (hπ x hx)).2 (hf _ (hπ y hy)).2
 have sur:∀x,x<m->∃y,y<n/\π y=x:=fun x hx=>⟨f x,(hf x hx).1,(hf x hx).2⟩
 refine⟨hm,fun x y hx hy=>hπ _ (B.ain _ _ (hf x hx).1 (hf y hy).1),fun x y hx hy=>hπ _ (B.cin _ _ (hf x hx).1 (hf y hy).1),?_,?_,?_,?_,?_,?_,?_,?_,?_⟩
 ·intro x y z hx hy hz
  obtain⟨x,hx',rfl⟩:=sur x hx;replace hx:=hx';obtain⟨y,hy',rfl⟩:=sur y hy;replace hy:=hy';obtain⟨z,hz',rfl⟩:=sur z hz;replace hz:=hz';rw[ha' x y hx hy,ha' y z hy hz,ha' _ z (B.ain x y hx hy) hz,ha' x _ hx (B.ain y z hy hz),B.aas x y z hx hy hz]
 ·intro x y z hx hy hz
  obtain⟨x,hx',rfl⟩:=sur x hx;replace hx:=hx';obtain⟨y,hy',rfl⟩:=sur y hy;replace hy:=hy';obtain⟨z,hz',rfl⟩:=sur z hz;replace hz:=hz';rw[hc' x y hx hy,hc' y z hy hz,hc' _ z (B.cin x y hx hy) hz,hc' x _ hx (B.cin y z hy hz),B.cas x y z hx hy hz]
 ·intro x hx
  obtain⟨x,hx',rfl⟩:=sur x hx;replace hx:=hx';have:=ha' 0 x B.pos hx
  rw[h0,B.a0l x hx]at this;exact this
 ·intro x hx
  obtain⟨x,hx',rfl⟩:=sur x hx;replace hx:=hx';have:=ha' x 0 hx B.pos
  rw[h0,B.a0r x hx]at this;exact this
 ·intro x hx
  obtain⟨x,hx',rfl⟩:=sur x hx;replace hx:=hx';have:=hc' 0 x B.pos hx
  rw[h0,B.c0l x hx]at this;exact this
 ·intro x hx
  obtain⟨x,hx',rfl⟩:=sur x hx;replace hx:=hx';have:=hc' x 0 hx B.pos
  rw[h0,B.c0r x hx]at this;exact this
 ·intro x hx
  obtain⟨x,hx',rfl⟩:=sur x hx;replace hx:=hx';obtain⟨y,hy,h⟩:=B.ainv x hx;exact⟨π y,hπ y hy,by rw[ha' x y hx hy,h,h0]⟩
 ·intro x hx
  obtain⟨x,hx',rfl⟩:=sur x hx;replace hx:=hx';obtain⟨y,hy,h⟩:=B.cinv x hx;exact⟨π y,hπ y hy,by rw[hc' x y hx hy,h,h0]⟩
 ·intro x y z i hx hy hz hi h
  obtain⟨x,hx',rfl⟩:=sur x hx;replace hx:=hx';obtain⟨y,hy',rfl⟩:=sur y hy;replace hy:=hy';obtain⟨z,hz',rfl⟩:=sur z hz;replace hz:=hz';obtain⟨k,hk,h2⟩:=B.ainv x hx;have ei:i=π k:=by
   obtain⟨i,hi',rfl⟩:=sur i hi;replace hi:=hi';rw[ha' x i hx hi]at h;have h3:=qo B hx hk h2
   have e1:=ha k k (A x i) 0 hk (B.ain x i hx hi) hk B.pos rfl (by rw[h,h0])
   rw[<-B.aas k x i hk hx hi,h3,B.a0l i hi,B.a0r k hk]at e1;exact e1
  subst ei;have hxy:=B.cin x y hx hy
  have hxz:=B.cin x z hx hz
  rw[ha' y z hy hz,hc' x _ hx (B.ain y z hy hz),hc' x y hx hy,ha' _ k hxy hk,hc' x z hx hz,ha' _ _ (B.ain _ k hxy hk) hxz,B.brc x y z k hx hy hz hk h2]
theorem BrN.congr{n:Nat}{A C A' C':Nat->Nat->Nat}(B:BrN n A C)(ea:∀x y,x<n->y<n->A' x y=A x y)(ec:∀x y,x<n->y<n->C' x y=C x y):BrN n A' C':=by
 refine⟨B.pos,fun x y hx hy=>by rw[ea x y hx hy];exact B.ain x y hx hy,fun x y hx hy=>by rw[ec x y hx hy];exact B.cin x y hx hy,fun x y z hx hy hz=>?_,fun x y z hx hy hz=>?_,fun x hx=>?_,fun x hx=>?_,fun x hx=>?_,fun x hx=>?_,fun x hx=>?_,fun x hx=>?_,fun x y z i hx hy hz hi h=>?_⟩
 ·rw[ea x y hx hy,ea y z hy hz,ea _ z (B.ain x y hx hy) hz,ea x _ hx (B.ain y z hy hz),B.aas x y z hx hy hz]
 ·rw[ec x y hx hy,ec y z hy hz,ec _ z (B.cin x y hx hy) hz,ec x _ hx (B.cin y z hy hz),B.cas x y z hx hy hz]
 ·rw[ea 0 x B.pos hx,B.a0l x hx]
 ·rw[ea x 0 hx B.pos,B.a0r x hx]
 ·rw[ec 0 x B.pos hx,B.c0l x hx]
 ·rw[ec x 0 hx B.pos,B.c0r x hx]
 ·obtain⟨y,hy,h⟩:=B.ainv x hx
  exact⟨y,hy,by rw[ea x y hx hy,h]⟩
 ·obtain⟨y,hy,h⟩:=B.cinv x hx
  exact⟨y,hy,by rw[ec x y hx hy,h]⟩
 ·rw[ea x i hx hi]at h
  rw[ea y z hy hz,ec x _ hx (B.ain y z hy hz),ec x y hx hy,ec x z hx hz,ea _ i (B.cin x y hx hy) hi,ea _ _ (B.ain _ i (B.cin x y hx hy) hi) (B.cin x z hx hz),B.brc x y z i hx hy hz hi h]
theorem Ow(p:Nat->Bool):∀n k,(iD p n).testBit k=(decide (k<n)&&p k)
 |0,k=>by simp[iD]
 |n+1,k=>by
  simp only[iD];have ih:=Ow p n k
  split
  ·rename_i hp
   rw[Nat.testBit_or,ih,Nat.testBit_two_pow];by_cases h1:n=k
   ·subst h1;simp[hp]
   ·by_cases h2:k<n
    ·simp[h1,h2,show k<n+1 by omega]
    ·simp[h1,h2,show ¬ k<n+1 by omega]
  ·rename_i hp
   rw[ih];by_cases h1:n=k
   ·subst h1;simp[hp]
   ·by_cases h2:k<n
    ·simp[h2,show k<n+1 by omega]
    ·simp[h2,show ¬ k<n+1 by omega]
def gK(a c:Dc)(x y:Nat):Bool:=decide (en c x y=en a x y)&&decide (en a x y=en a y x)
def iL(a c:Dc)(x:Nat):Bool:=(List.range a.length).all (gK a c x)
def cq(a c:Dc)(i:Nat):Nat:=iD (iL a c) i
def am(a c:Dc):Int:=(cq a c a.length:Nat)
theorem Ox(a c:Dc)(k:Nat):bitB (am a c) k=(decide (k<a.length)&&iL a c k):=by
 unfold bitB am cq;rw[AP,Ow]
theorem oC{a:Dc}(h:aM a=true)(c:Dc):cQ a (am a c):=by
 refine⟨h,BW _,?_⟩
 unfold am cq;rw[AP];exact zF _ _
def tA(t:Dc)(x y:Nat):Nat:=(en t x y).toNat
def dK(a c:Dc):Prop:=aM a=true/\aM c=true/\c.length=a.length/\BrN a.length (tA a) (tA c)
theorem gL{t:Dc}(h:aM t=true){x y:Nat}(hx:x<t.length)(hy:y<t.length):tA t x y<t.length/\en t x y=(tA t x y:Int):=by
 have:=((bT h).2.2 x hx).2 y hy
 unfold tA;unfold en;omega
theorem wa(x:Int):∀(l:Db) (k:Int),x∈l->l.getD (bm x l k-k).toNat 0=x
 | [],k,h=>by simp at h
 |y::l,k,h=>by
  simp only[bm];split
  ·rename_i hy;subst hy;simp
  ·rename_i hy
   have hm:x∈l:=by
    rcases AH.1 h with rfl|h
    ·exact absurd rfl hy
    ·exact h
   have ih:=wa x l (k+1) hm
   have hn:k+1<=bm x l (k+1):=by
    have:∀(l:Db) (k:Int),x∈l->k<=bm x l k:=fun l=>by
     induction l with
     |nil=>intro k h;simp at h
     |cons z l ihl =>
      intro k h
      simp only[bm];split
      ·omega
      ·rename_i hz
       have hm:x∈l:=by
        rcases AH.1 h with rfl|h
        ·exact absurd rfl hz
        ·exact h
       have:=ihl (k+1) hm
       omega
    exact this l (k+1) hm
   rw[show(bm x l (k+1)-k).toNat=(bm x l (k+1)-(k+1)).toNat+1 by omega]
   simpa using ih
theorem lE{t:Dc}(h:bd t=true) :
  (∀x y z,x<t.length->y<t.length->z<t.length->tA t (tA t x y) z=tA t x (tA t y z))/\(∀x,x<t.length->tA t 0 x=x)/\(∀x,x<t.length->tA t x 0=x) /\
  (∀x,x<t.length->(bk t x).toNat<t.length/\tA t x (bk t x).toNat=0):=by
 have ht:=bT (gC h)
 have hbk:=fun x (hx:x<t.length)=>zI h hx
 rw[bd,AG,AG]at h;obtain⟨_,hp,hg⟩:=h;rw[AM]at hg;have hg2:∀x,x<t.length->gX t x=true/\my t x=true:=fun x hx=>by
  have:=hg x (by simpa using hx)
  rw[fX,AG]at this;exact this
 refine⟨fun x y z hx hy hz=>?_,fun x hx=>?_,fun x hx=>?_,fun x hx=>⟨?_,?_⟩⟩
 ·have h1:=(hg2 x hx).2
  rw[my,AM]at h1;have h2:=h1 y (by simpa using hy)
  rw[gW,AM]at h2;have h3:=BS (h2 z (by simpa using hz))
  unfold tA;rw[h3]
 ·have h1:=(hg2 x hx).1
  rw[gX,AG]at h1;have:=BS h1.1
  unfold tA;rw[this];rfl
 ·have h1:=(hg2 x hx).1
  rw[gX,AG]at h1;have:=BS h1.2
  unfold tA;rw[this];rfl
 ·have:=hbk x hx;omega
 ·have hr:=ht.2.2 x hx
  have hpx:cB (t.getD x [])=true:=by
   rw[og,AM]at hp;exact hp x (by simpa using hx)
  have hm:=KW hpx (x:=0) (by omega) (by omega)
  have:=wa 0 (t.getD x []) 0 hm
  rw[Int.sub_zero]at this;unfold tA en bk;rw[this];rfl
theorem wb{α:Type}{n:Nat}{q:Nat->Option α}:∀{k:Nat},k<=n->cb n q k=none->∀i,n-k<=i->i<n->q i=none
 |0,_,_,i,h1,h2=>by omega
 |k+1,hk,h,i,h1,h2=>by
  simp only[cb,Option.or_eq_none_iff]at h;by_cases hi:i=n-(k+1)
  ·subst hi;exact h.1
  ·exact wb (by omega) h.2 i (by omega) h2
theorem oD{a c:Dc}(h:bM a c=true):dK a c:=by
 obtain⟨h1,h2,h3,h4⟩:=jc h;obtain⟨a1,a2,a3,a4⟩:=lE h1;obtain⟨c1,c2,c3,c4⟩:=lE h2;rw[<-h3]at c1 c2 c3 c4;have ta:=gC h1
 have tc:=gC h2
 have hA:∀x y,x<a.length->y<a.length->tA a x y<a.length/\en a x y=(tA a x y:Int):=fun x y hx hy=>gL ta hx hy
 have hC:∀x y,x<a.length->y<a.length->tA c x y<a.length/\en c x y=(tA c x y:Int):=fun x y hx hy=>by
  have:=gL tc (x:=x) (y:=y) (by omega) (by omega)
  rwa[<-h3]at this
 refine⟨ta,tc,h3.symm,(bT ta).1,fun x y hx hy=>(hA x y hx hy).1,fun x y hx hy=>(hC x y hx hy).1,a1,c1,a2,a3,c2,c3,fun x hx=>⟨_,a4 x hx⟩,fun x hx=>⟨_,c4 x hx⟩,fun x y z i hx hy hz hi hxi=>?_⟩
 have ei:i=(bk a x).toNat:=by
  obtain⟨hk,hxk⟩:=a4 x hx;obtain⟨z2,hz2,hkz⟩:∃z2,z2<a.length/\tA a (bk a x).toNat z2=0:=⟨_,a4 _ hk⟩;have:x=z2:=(a3 x hx).symm.trans (by rw[<-hkz,<-a1 x _ _ hx hk hz2,hxk,a2 _ hz2])
  subst this;rw[<-a2 i hi,<-hkz,a1 _ x i hk hx hi,hxi,a3 _ hk]
 subst ei;have h5:cG a c=none:=by simpa using h4
 have h6:=wb (AE _) h5 x (by omega) hx
 have h7:=wb (AE _) h6 y (by omega) hy
 have h8:=wb (AE _) h7 z (by omega) hz
 rw[iE]at h8;split at h8
 ·rename_i h9
  unfold tA;rw[h9]
 ·cases h8
theorem Oy(t:Dc)(s:Int)(x:Nat):∀k,dC t s x k<=(x:Int)/\(dC t s x k=(x:Int)\/∃j,j<k/\bitB s j=true/\dC t s x k=en t x j)/\∀j,j<k->bitB s j=true->dC t s x k<=en t x j
 |0=>⟨Int.le_refl _,.inl rfl,fun j hj=>by omega⟩
 |k+1=>by
  obtain⟨h1,h2,h3⟩:=Oy t s x k;simp only[dC];split
  ·rename_i hb
   unfold mn;split
   ·refine⟨by omega,.inr ⟨k,by omega,hb,rfl⟩,fun j hj hj2=>?_⟩
    by_cases e:j=k
    ·subst e;omega
    ·have:=h3 j (by omega) hj2;omega
   ·refine⟨h1,?_,fun j hj hj2=>?_⟩
    ·rcases h2 with h2|⟨j,h4,h5,h6⟩
     ·exact .inl h2
     ·exact .inr ⟨j,by omega,h5,h6⟩
    ·by_cases e:j=k
     ·subst e;omega
     ·exact h3 j (by omega) hj2
  ·rename_i hb
   refine⟨h1,?_,fun j hj hj2=>?_⟩
   ·rcases h2 with h2|⟨j,h4,h5,h6⟩
    ·exact .inl h2
    ·exact .inr ⟨j,by omega,h5,h6⟩
   ·by_cases e:j=k
    ·subst e;exact absurd hj2 hb
    ·exact h3 j (by omega) hj2
section
variable {a c:Dc} (B:dK a c)
include B
theorem oE(t:Nat):bitB (am a c) t=true↔ft a.length (tA a) (tA c) t:=by
 obtain⟨ta,tc,hl,hB⟩:=B;rw[Ox,AG,AQ,iL,AM]
 constructor
 ·rintro⟨h1,h2⟩
  refine⟨h1,fun z hz=>?_⟩
  have:=h2 z (by simpa using hz)
  rw[gK,AG,AQ,AQ]at this;unfold tA;rw[this.1,<-this.2];exact⟨rfl,rfl⟩
 ·rintro⟨h1,h2⟩
  refine⟨h1,fun z hz=>?_⟩
  have hz:z<a.length:=by simpa using hz
  have:=h2 z hz
  have e1:=(gL ta h1 hz).2
  have e2:=(gL ta hz h1).2
  have e3:=(gL tc (x:=t) (y:=z) (by omega) (by omega)).2
  rw[gK,AG,AQ,AQ];omega
def lb(a:Dc)(s:Int)(x:Nat):Nat:=(dC a s x a.length).toNat
theorem wc{x:Nat}(hx:x<a.length):dC a (am a c) x a.length=(lb a (am a c) x:Int)/\lb a (am a c) x<=x/\eD a.length (tA a) (tA c) x (lb a (am a c) x)/\∀y,eD a.length (tA a) (tA c) x y->lb a (am a c) x<=y:=by
 obtain⟨h1,h2,h3⟩:=Oy a (am a c) x a.length;have hn:0<=dC a (am a c) x a.length:=by
  rcases h2 with h2|⟨j,h4,_,h6⟩
  ·omega
  ·have:=(gL B.1 hx h4).2;omega
 refine⟨by unfold lb;omega,by unfold lb;omega,?_,fun y ⟨t,ht,e⟩=>?_⟩
 ·unfold lb
  rcases h2 with h2|⟨j,h4,h5,h6⟩
  ·rw[h2];exact Yo B.2.2.2 hx
  ·rw[h6];exact⟨j,(oE B j).1 h5,rfl⟩
 ·have:=h3 t ht.1 ((oE B t).2 ht)
  have e2:=(gL B.1 hx ht.1).2
  rw[e]at e2;unfold lb;omega
theorem Oz{x y:Nat}(hx:x<a.length)(hy:y<a.length):lb a (am a c) x=lb a (am a c) y↔eD a.length (tA a) (tA c) x y:=by
 have hB:=B.2.2.2
 have fx:=wc B hx
 have fy:=wc B hy
 constructor
 ·intro h
  refine Gf hB hx fx.2.2.1 ?_
  rw[h];exact Ot hB hy fy.2.2.1
 ·intro h
  have h1:=fx.2.2.2 _ (Gf hB hx h fy.2.2.1)
  have h2:=fy.2.2.2 _ (Gf hB hy (Ot hB hx h) fx.2.2.1)
  omega
end
theorem Gg(l:Db)(i:Nat):∀j,∃m,a8 l (i+j)=a8 l i++m
 |0=>⟨[],by simp⟩
 |j+1=>by
  obtain⟨m,h⟩:=Gg l i j;rw[<-A0];simp only[a8];split
  ·exact⟨m,h⟩
  ·exact⟨m++[l.getD (i+j) 0],by rw[h,Ap]⟩
theorem Gh(l:Db){i:Nat}(hi:i<l.length):(bI l).getD i 0=bm (l.getD i 0) (a8 l l.length) 0/\l.getD i 0∈a8 l l.length:=by
 have hm:=zY l i
 obtain⟨m,h⟩:=Gg l (i+1) (l.length-(i+1));rw[show i+1+(l.length-(i+1))=l.length by omega]at h
 refine⟨?_,by rw[h];exact AL.2 (.inl hm)⟩
 rw[h,Lc _ _ _ _ hm];exact cj _ _ _ hi
theorem Yp(l:Db){i j:Nat}(hi:i<l.length)(hj:j<l.length):(bI l).getD i 0=(bI l).getD j 0↔l.getD i 0=l.getD j 0:=by
 obtain⟨h1,h2⟩:=Gh l hi;obtain⟨h3,h4⟩:=Gh l hj;rw[h1,h3]
 constructor
 ·intro h
  have a:=wa _ _ 0 h2
  have b:=wa _ _ 0 h4
  rw[h]at a;exact a.symm.trans b
 ·intro h;rw[h]
theorem Yq(l:Db){i:Nat}(hi:i<l.length):0<=(bI l).getD i 0/\(bI l).getD i 0<((aV (bI l) (bI l).length).length:Int):=by
 obtain⟨h1,h2⟩:=Gh l hi;have hl:(bI l).length=l.length:=bK _ _
 rw[h1,hl,tF l l.length (AE _)];have:=pL (l.getD i 0) (a8 l l.length) 0 (by omega)
 exact⟨zX _ _ h2,by omega⟩
theorem Gi(cl:Db):∀i X,X<(aV cl i).length->cl.getD ((aV cl i).getD X 0).toNat 0=(X:Int)
 |0,X,h=>by simp[aV]at h
 |i+1,X,h=>by
  simp only[aV]at h⊢;split
  ·rename_i hc
   rw[AA hc]at h;by_cases e:X=(aV cl i).length
   ·subst e
    rw[show(aV cl i++[(i:Int)]).getD (aV cl i).length 0=(i:Int) by simp[List.getD],AP,hc]
   ·have hX:X<(aV cl i).length:=by simp at h;omega
    rw[show(aV cl i++[(i:Int)]).getD X 0=(aV cl i).getD X 0 by simp[List.getD,Am hX]]
    exact Gi cl i X hX
  ·rename_i hc
   rw[AB hc]at h;exact Gi cl i X h
theorem OA(l:Db){x y:Nat}(hy:y<x)(h:l.getD y 0=l.getD x 0):∀i,x<i->(a8 l i).length+1<=i
 |0,h=>by omega
 |i+1,hi=>by
  by_cases e:i=x
  ·subst e
   have hm:l.getD i 0∈a8 l i:=by
    obtain⟨m,h2⟩:=Gg l (y+1) (i-(y+1));rw[show y+1+(i-(y+1))=i by omega]at h2
    rw[h2,<-h];exact AL.2 (.inl (zY l y))
   have:=tE l i
   simp only[a8];rw[AA hm];omega
  ·have ih:=OA l hy h i (by omega)
   simp only[a8];split
   ·omega
   ·simp;omega
section
variable {a c:Dc} (B:dK a c)
include B
theorem qp{x:Nat}(hx:x<a.length):(bW a (am a c)).getD x 0=(lb a (am a c) x:Int):=by
 rw[bW,cj _ _ _ hx];exact(wc B hx).1
def cn(a c:Dc)(x:Nat):Nat:=((av a (am a c)).getD x 0).toNat
def cf(a c:Dc)(x:Nat):Nat:=((aV (av a (am a c)) (av a (am a c)).length).getD x 0).toNat
def cm(a c:Dc):Nat:=(aV (av a (am a c)) (av a (am a c)).length).length
theorem gM{x:Nat}(hx:x<a.length):(av a (am a c)).getD x 0=(cn a c x:Int)/\cn a c x<cm a c:=by
 have hl:(bW a (am a c)).length=a.length:=bK _ _
 have:=Yq (bW a (am a c)) (i:=x) (by omega)
 unfold cn cm av;omega
theorem g8{x y:Nat}(hx:x<a.length)(hy:y<a.length):cn a c x=cn a c y↔eD a.length (tA a) (tA c) x y:=by
 have hl:(bW a (am a c)).length=a.length:=bK _ _
 have h1:=Yp (bW a (am a c)) (i:=x) (j:=y) (by omega) (by omega)
 rw[qp B hx,qp B hy]at h1;have e1:=(gM B hx).1
 have e2:=(gM B hy).1
 unfold av at e1 e2;rw[e1,e2]at h1;rw[<-Oz B hx hy];omega
theorem fw{x:Nat}(hx:x<cm a c):cf a c x<a.length/\cn a c (cf a c x)=x/\(aV (av a (am a c)) (av a (am a c)).length).getD x 0=(cf a c x:Int):=by
 have hl:=jJ a (am a c)
 have h1:=mz (av a (am a c)) (av a (am a c)).length _ (cU (aV (av a (am a c)) (av a (am a c)).length) 0 x hx)
 have h2:=Gi (av a (am a c)) (av a (am a c)).length x hx
 refine⟨by unfold cf;omega,by unfold cn cf;rw[h2];rfl,by unfold cf;omega⟩
theorem we:0<cm a c:=by
 have:=(gM B B.2.2.2.pos).2
 omega
theorem Yr:cn a c 0=0:=by
 have h0:=B.2.2.2.pos
 have h1:=fw B (we B)
 have hl:(av a (am a c)).length=a.length:=jJ _ _
 have hl2:(bW a (am a c)).length=a.length:=bK _ _
 have e:=(gM B h0).1
 have:(bI (bW a (am a c))).getD 0 0=0:=by
  unfold bI;rw[cj _ _ _ (by omega)]
  simp[a8,bm]
 unfold av at e;omega
theorem mN{t:Dc}(ht:aM t=true)(hl:t.length=a.length){x y:Nat}(hx:x<cm a c)(hy:y<cm a c):en (quo t (av a (am a c))) x y=(cn a c (tA t (cf a c x) (cf a c y)):Int):=by
 unfold en quo;have hx':x<(aV (av a (am a c)) (av a (am a c)).length).length:=hx
 have hy':y<(aV (av a (am a c)) (av a (am a c)).length).length:=hy
 rw[fG _ _ _ hx',cj _ _ _ hy'];have fx:=fw B hx
 have fy:=fw B hy
 rw[fx.2.2,fy.2.2,AP,AP];have h:=gL ht (x:=cf a c x) (y:=cf a c y) (by omega) (by omega)
 exact(gM B (x:=tA t (cf a c x) (cf a c y)) (by omega)).1
theorem iM{t:Dc}(ht:aM t=true)(hl:t.length=a.length):aM (quo t (av a (am a c)))=true/\(quo t (av a (am a c))).length=cm a c:=by
 have n2:=(bT B.1).2.1
 have hlen:(quo t (av a (am a c))).length=cm a c:=fb _ _
 have hm:=we B
 have hm2:cm a c<=a.length:=by
  have:=kA (av a (am a c)) (av a (am a c)).length
  rw[jJ]at this;unfold cm;rw[jJ];exact this
 refine⟨?_,hlen⟩
 rw[aM,AG,AQ,AM];refine⟨by omega,fun r hr=>?_⟩
 obtain⟨x,hx,rfl⟩:=AT.1 (show r∈(List.range (cm a c)).map _ from hr)
 have hx:x<cm a c:=by simpa using hx
 rw[dR,AG,AQ,dG,AM];refine⟨by rw[bK,hlen];rfl,fun v hv=>?_⟩
 obtain⟨y,hy,rfl⟩:=AT.1 (show v∈(List.range (cm a c)).map _ from hv)
 have hy:y<cm a c:=by simpa using hy
 have e:=mN B ht hl hx hy
 unfold en quo at e;have hx':x<(aV (av a (am a c)) (av a (am a c)).length).length:=hx
 have hy':y<(aV (av a (am a c)) (av a (am a c)).length).length:=hy
 rw[fG _ _ _ hx',cj _ _ _ hy']at e;have fx:=fw B hx
 have fy:=fw B hy
 have h:=gL ht (x:=cf a c x) (y:=cf a c y) (by omega) (by omega)
 have:=(gM B (x:=tA t (cf a c x) (cf a c y)) (by omega)).2
 rw[AQ];simp only[e,hlen];omega
theorem jM:dK (quo a (av a (am a c))) (quo c (av a (am a c))):=by
 have hB:=B.2.2.2
 obtain⟨q1,q2⟩:=iM B B.1 rfl;obtain⟨q3,q4⟩:=iM B B.2.1 B.2.2.1;have key:=hB.quot (π:=cn a c) (f:=cf a c) (we B) (fun x hx=>(gM B hx).2) (fun x hx=>⟨(fw B hx).1,(fw B hx).2.1⟩) (Yr B)
  (fun x x' y y' hx hy hx' hy' h k=>(g8 B (hB.ain x y hx hy) (hB.ain x' y' hx' hy')).2 (Ou hB hx hy ((g8 B hx hx').1 h) ((g8 B hy hy').1 k)))
  (fun x x' y y' hx hy hx' hy' h k=>(g8 B (hB.cin x y hx hy) (hB.cin x' y' hx' hy')).2 (Ov hB hx hy ((g8 B hx hx').1 h) ((g8 B hy hy').1 k)))
 have ea:∀x y,x<cm a c->y<cm a c->tA (quo a (av a (am a c))) x y=cn a c (tA a (cf a c x) (cf a c y)):=fun x y hx hy=>by
  have:=mN B B.1 rfl hx hy
  rw[tA,this,AP]
 have ec:∀x y,x<cm a c->y<cm a c->tA (quo c (av a (am a c))) x y=cn a c (tA c (cf a c x) (cf a c y)):=fun x y hx hy=>by
  have:=mN B B.2.1 B.2.2.1 hx hy
  rw[tA,this,AP]
 refine⟨q1,q3,by omega,?_⟩
 rw[q2];exact key.congr ea ec
theorem qq(h1:1<a.length)(h:am a c≠1):cm a c<a.length:=by
 have hB:=B.2.2.2
 have hk:∃k,0<k/\k<a.length/\ft a.length (tA a) (tA c) k:=by
  by_cases e:∃k,0<k/\k<a.length/\bitB (am a c) k=true
  ·obtain⟨k,k1,k2,k3⟩:=e
   exact⟨k,k1,k2,(oE B k).1 k3⟩
  ·exfalso
   apply h
   have:cq a c a.length=1:=by
    apply Nat.eq_of_testBit_eq
    intro k
    have hb:=Ox a c k
    unfold bitB am at hb;rw[AP]at hb;by_cases k0:k=0
    ·subst k0
     have:=(oE B 0).2 (Ge hB)
     unfold bitB am at this;rw[AP]at this;rw[this];rfl
    ·have h2:(1:Nat).testBit k=false:=by
      cases k with
      |zero=>exact absurd rfl k0
      |succ k=>simp[Nat.testBit_succ]
     rw[h2];by_cases hk:k<a.length
     ·cases hh:(cq a c a.length).testBit k with
      |false=>rfl
      |true =>
       exfalso
       refine e ⟨k,by omega,hk,?_⟩
       unfold bitB am;rw[AP];exact hh
     ·rw[hb];simp[hk]
   unfold am;rw[this];rfl
 obtain⟨k,k0,k1,hk⟩:=hk;have hs:eD a.length (tA a) (tA c) 0 k:=⟨k,hk,hB.a0l k k1⟩
 have e:=(Oz B hB.pos k1).2 hs
 have hl:(bW a (am a c)).length=a.length:=bK _ _
 have:=OA (bW a (am a c)) k0 (by rw[qp B hB.pos,qp B k1,e]) (bW a (am a c)).length (by omega)
 unfold cm av;rw[show(bI (bW a (am a c))).length=(bW a (am a c)).length from bK _ _,tF _ _ (AE _)]
 omega
end
end Go.Sx
