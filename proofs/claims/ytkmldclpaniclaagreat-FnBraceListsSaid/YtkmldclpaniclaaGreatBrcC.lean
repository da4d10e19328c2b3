/- BrcC -/
import Derived.Test.YtkmldclpaniclaaGreatGrpC
set_option linter.unusedSimpArgs false
set_option linter.unusedVariables false
set_option linter.defProp false
open Go Go.Proofs
namespace Go.Sx
def qj(a c:D7):Prop:=bo a=true/\bo c=true/\a.length=c.length
def K6{a c:D7}(h:qj a c):1<=a.length/\a.length<=12/\c.length=a.length /\
  (∀x,x<a.length->(a.getD x []).length=a.length/\∀y,y<a.length->0<=(a.getD x []).getD y 0/\(a.getD x []).getD y 0<=(a.length:Int)-1) /\
  (∀x,x<a.length->(c.getD x []).length=a.length/\∀y,y<a.length->0<=(c.getD x []).getD y 0/\(c.getD x []).getD y 0<=(a.length:Int)-1) /\
  (∀x,x<a.length->0<=bk a x/\bk a x<=(a.length:Int)-1):=by
 obtain⟨h1,h2,h3⟩:=h;obtain⟨n1,n2,ha⟩:=gH (jV h1);obtain⟨_,_,hc⟩:=gH (jV h2);rw[<-h3]at hc;exact⟨n1,n2,h3.symm,ha,hc,λx hx=>YE h1 hx⟩
def zh:List AD->Option Post
 | [.agg [.rows .i64 a,.rows .i64 c]]=>some ⟨qj a c,.c (.ints 2 .i64 ((cS a c).getD [])),[]⟩
 |_=>none
def K7(a:D7)(c:D7):Nat->Option Ann
 |0=>T' (λi=>⟨⟨[(1,M' 1),(3,A' a.length),(4,A' i)],[(1,P' [.ro (.rows .i64 a),.ro (.rows .i64 c)])]⟩,i<=a.length/\cS a c=cI a.length (gq a c) (a.length-i),a.length-i⟩) (λi b_=>match b_ with|2=>T' (λj=>⟨⟨[(1,M' 1),(3,A' a.length),(4,A' i),(5,A' (bk a i)),(6,A' j)],[(1,P' [.ro (.rows .i64 a),.ro (.rows .i64 c)])]⟩,j<=a.length/\i<a.length/\cS a c=(cI a.length (ia a c i) (a.length-j)).or (cI a.length (gq a c) (a.length-(i+1))),a.length-j⟩) (λj b_=>match b_ with|4=>Q' λk=>⟨⟨[(1,M' 1),(3,A' a.length),(4,A' i),(5,A' (bk a i)),(6,A' j),(7,A' k)],[(1,P' [.ro (.rows .i64 a),.ro (.rows .i64 c)])]⟩,k<=a.length/\j<a.length/\cS a c=((cI a.length (jW a c i j) (a.length-k)).or (cI a.length (ia a c i) (a.length-(j+1)))).or (cI a.length (gq a c) (a.length-(i+1))),a.length-k⟩|_=>none)|_=>none)
 |_=>none
def ox(c:D7)(x0:Nat)(x1:Nat):=((List.getD c (↑x0:Int).toNat []).getD (↑x1:Int).toNat (0:Int))
def mL(a:D7)(c:D7)(x0:Nat):=(cI a.length (gq a c) (a.length-(x0+(1:Nat))))
def sW(a:D7)(c:D7)(x0:Nat)(x1:Nat)(x2:Nat):=(Option.or (cI a.length (jW a c x0 x1) (a.length-x2)) (cI a.length (ia a c x0) (a.length-(x1+(1:Nat)))))
def UJ:Fits Tryz.prog 111 ⟨[],zh⟩:=by
 refine ffv (Γ:=ah [(156,⟨[],Ge⟩)]) (aq YV aN) Tryz.func111 λds p h ξ=>?_
 unfold zh at h;split at h<;>cases h
 rename_i a c
 refine⟨aj,K7 a c,(∃x0:Nat,(x0<=a.length/\cS a c=cI a.length (gq a c) (a.length-x0))/\(a.length:Int)=(a.length:Int)/\(0:Int)=(x0:Int)/\a=a/\c=c)/\∀x1:Nat,x1<=a.length/\cS a c=cI a.length (gq a c) (a.length-x1)->ab (decide ((x1:Int)<(a.length:Int))) (((bX a=true/\(0:Int)<=(x1:Int)/\(x1:Int)<=(a.length:Int)-(1:Int))/\True)/\(∃x2:Nat,(x2<=a.length/\x1<a.length/\cS a c=Option.or (cI a.length (ia a c x1) (a.length-x2)) (mL a c x1))/\(a.length:Int)=(a.length:Int)/\(x1:Int)=(x1:Int)/\bk a (x1:Int).toNat=bk a x1/\(0:Int)=(x2:Int)/\a=a/\c=c)/\∀x3:Nat,x3<=a.length/\x1<a.length/\cS a c=Option.or (cI a.length (ia a c x1) (a.length-x3)) (mL a c x1)->ab (decide ((x3:Int)<(a.length:Int))) ((∃x4:Nat,(x4<=a.length/\x3<a.length/\cS a c=Option.or (sW a c x1 x3 x4) (mL a c x1))/\(a.length:Int)=(a.length:Int)/\(x1:Int)=(x1:Int)/\bk a x1=bk a x1/\(x3:Int)=(x3:Int)/\(0:Int)=(x4:Int)/\a=a/\c=c)/\∀x5:Nat,x5<=a.length/\x3<a.length/\cS a c=Option.or (sW a c x1 x3 x5) (mL a c x1)->ab (decide ((x5:Int)<(a.length:Int))) (ac (x1:Int) c.length/\ac (x3:Int) a.length/\ac (x5:Int) ((a.getD (x3:Int).toNat []).length)/\ac ((List.getD a (x3:Int).toNat []).getD (x5:Int).toNat (0:Int)) ((c.getD (x1:Int).toNat []).length)/\ac (x1:Int) c.length/\ac (x3:Int) ((c.getD (x1:Int).toNat []).length)/\ac (ox c x1 x3) a.length/\ac (bk a x1) ((a.getD (ox c x1 x3).toNat []).length)/\ac ((List.getD a (ox c x1 x3).toNat []).getD (bk a x1).toNat (0:Int)) a.length/\ac (x1:Int) c.length/\ac (x5:Int) ((c.getD (x1:Int).toNat []).length)/\ac (ox c x1 x5) ((a.getD (((List.getD a (ox c x1 x3).toNat []).getD (bk a x1).toNat (0:Int)).toNat) []).length)/\ab ((List.getD c (x1:Int).toNat []).getD (((List.getD a (x3:Int).toNat []).getD (x5:Int).toNat (0:Int)).toNat) (0:Int) != (List.getD a ((List.getD (List.getD a ((List.getD (List.getD c (x1:Int).toNat []) (x3:Int).toNat (0:Int)).toNat) []) (bk a x1).toNat (0:Int)).toNat) []).getD (((List.getD c (x1:Int).toNat []).getD (x5:Int).toNat (0:Int)).toNat) (0:Int)) ([(x1:Int),(x3:Int),(x5:Int)]=Option.getD (cS a c) []/\True) (ae ((x5:Int)+(1:Int))/\∃x6:Nat,(x6<=a.length/\x3<a.length/\cS a c=Option.or (sW a c x1 x3 x6) (mL a c x1))/\a.length-x6<a.length-x5/\(a.length:Int)=(a.length:Int)/\(x1:Int)=(x1:Int)/\bk a x1=bk a x1/\(x3:Int)=(x3:Int)/\(x5:Int)+(1:Int)=(x6:Int)/\a=a/\c=c)) (ae ((x3:Int)+(1:Int))/\∃x7:Nat,(x7<=a.length/\x1<a.length/\cS a c=Option.or (cI a.length (ia a c x1) (a.length-x7)) (mL a c x1))/\a.length-x7<a.length-x3/\(a.length:Int)=(a.length:Int)/\(x1:Int)=(x1:Int)/\bk a x1=bk a x1/\(x3:Int)+(1:Int)=(x7:Int)/\a=a/\c=c)) (ae ((x1:Int)+(1:Int))/\∃x8:Nat,(x8<=a.length/\cS a c=cI a.length (gq a c) (a.length-x8))/\a.length-x8<a.length-x1/\(a.length:Int)=(a.length:Int)/\(x1:Int)+(1:Int)=(x8:Int)/\a=a/\c=c)) ([]=Option.getD (cS a c) []/\True),by kernel_rfl,?_⟩
 simp only[ox,mL,sW,aO]at ξ⊢;obtain⟨n1,n2,hl,ha,hc,hb⟩:=K6 ξ;have h1:=jV ξ.1
 refine⟨⟨0,⟨by omega,rfl⟩,rfl⟩,λi ⟨hi,hx⟩=>⟨λh=>⟨⟨h1,by omega,by omega⟩,⟨0,⟨by omega,by omega,?_⟩,rfl⟩,λj ⟨hj,_,hy⟩=>⟨λh2=>⟨⟨0,⟨by omega,by omega,?_⟩,rfl⟩,λk ⟨hk,_,hz⟩=>⟨λh3=>?_,λh3=>?_⟩⟩,λh2=>?_⟩⟩,λh=>?_⟩⟩
 ·rw[hx,lR _ _ i (by omega)];rfl
 ·rw[hy,lR _ _ j (by omega)];rfl
 ·have A:=ha j (by omega)
  have A2:=A.2 k (by omega)
  have C:=hc i (by omega)
  have C1:=C.2 j (by omega)
  have C2:=C.2 k (by omega)
  have B:=hb i (by omega)
  have R1:=ha ((c.getD i []).getD j 0).toNat (by omega)
  have V:=R1.2 (bk a i).toNat (by omega)
  have R2:=ha ((a.getD ((c.getD i []).getD j 0).toNat []).getD (bk a i).toNat 0).toNat (by omega)
  refine⟨by omega,by omega,by omega,by omega,by omega,by omega,by omega,by omega,by omega,by omega,by omega,by omega,λh4=>?_,λh4=>⟨by omega,k+1,⟨by omega,by omega,?_⟩,by omega,by omega⟩⟩
  ·rw[hz,lR _ _ k (by omega),show jW a c i j k=some [(i:Int),(j:Int),(k:Int)] from AB h4];rfl
  ·rw[hz,lR _ _ k (by omega),show jW a c i j k=none from AA h4];rfl
 ·refine⟨by omega,j+1,⟨by omega,by omega,?_⟩,by omega,by omega⟩
  rw[hz,show a.length-k=0 by omega];rfl
 ·refine⟨by omega,i+1,⟨by omega,?_⟩,by omega,by omega⟩
  rw[hy,show a.length-j=0 by omega];rfl
 ·rw[hx,show a.length-i=0 by omega];rfl
def zj:List AD->Option Post
 | [.agg [.rows .i64 a,.rows .i64 c]]=>some ⟨qj a c,.c (.nilq (cS a c).isNone),[]⟩
 |_=>none
def K9(a:D7)(c:D7):Nat->Option Ann
 |0=>T' (λi=>⟨⟨[(1,M' 1),(3,J' 10),(4,A' a.length),(14,A' a.length),(15,A' i)],[(1,P' [.ro (.rows .i64 a),.ro (.rows .i64 c)]),(10,O' (cN a))]⟩,i<=a.length/\cS a c=cI a.length (gq a c) (a.length-i),a.length-i⟩) (λi b_=>match b_ with|2=>T' (λj=>⟨⟨[(1,M' 1),(3,J' 10),(4,A' a.length),(14,A' a.length),(15,A' i),(5,A' i),(18,A' a.length),(19,A' j)],[(1,P' [.ro (.rows .i64 a),.ro (.rows .i64 c)]),(10,O' (cN a))]⟩,j<=a.length/\i<a.length/\cS a c=(cI a.length (ia a c i) (a.length-j)).or (cI a.length (gq a c) (a.length-(i+1))),a.length-j⟩) (λj b_=>match b_ with|4=>Q' λk=>⟨⟨[(1,M' 1),(3,J' 10),(4,A' a.length),(14,A' a.length),(15,A' i),(5,A' i),(18,A' a.length),(19,A' j),(6,A' j),(22,A' a.length),(23,A' k)],[(1,P' [.ro (.rows .i64 a),.ro (.rows .i64 c)]),(10,O' (cN a))]⟩,k<=a.length/\j<a.length/\cS a c=((cI a.length (jW a c i j) (a.length-k)).or (cI a.length (ia a c i) (a.length-(j+1)))).or (cI a.length (gq a c) (a.length-(i+1))),a.length-k⟩|_=>none)|_=>none)
 |_=>none
def oy(c:D7)(x0:Nat)(x1:Nat):=((List.getD c (↑x0:Int).toNat []).getD (↑x1:Int).toNat (0:Int))
def mM(a:D7)(c:D7)(x0:Nat):=(cI a.length (gq a c) (a.length-(x0+(1:Nat))))
def sY(a:D7)(c:D7)(x0:Nat)(x1:Nat)(x2:Nat):=(Option.or (cI a.length (jW a c x0 x1) (a.length-x2)) (cI a.length (ia a c x0) (a.length-(x1+(1:Nat)))))
def UM:Fits Tryz.prog 80 ⟨[],zj⟩:=by
 refine ffv (Γ:=ah [(114,⟨[],Gc⟩)]) (aq YS aN) Tryz.func80 λds p h ξ=>?_
 unfold zj at h;split at h<;>cases h
 rename_i a c
 refine⟨aj,K9 a c,(bX a=true/\True)/\(∃x0:Nat,(x0<=a.length/\cS a c=cI a.length (gq a c) (a.length-x0))/\(a.length:Int)=(a.length:Int)/\(a.length:Int)=(a.length:Int)/\(0:Int)=(x0:Int)/\a=a/\c=c/\cN a=cN a)/\∀x1:Nat,x1<=a.length/\cS a c=cI a.length (gq a c) (a.length-x1)->ab (decide ((x1:Int)<(a.length:Int))) ((∃x2:Nat,(x2<=a.length/\x1<a.length/\cS a c=Option.or (cI a.length (ia a c x1) (a.length-x2)) (mM a c x1))/\(a.length:Int)=(a.length:Int)/\(a.length:Int)=(a.length:Int)/\(x1:Int)=(x1:Int)/\(x1:Int)=(x1:Int)/\(a.length:Int)=(a.length:Int)/\(0:Int)=(x2:Int)/\a=a/\c=c/\cN a=cN a)/\∀x3:Nat,x3<=a.length/\x1<a.length/\cS a c=Option.or (cI a.length (ia a c x1) (a.length-x3)) (mM a c x1)->ab (decide ((x3:Int)<(a.length:Int))) ((∃x4:Nat,(x4<=a.length/\x3<a.length/\cS a c=Option.or (sY a c x1 x3 x4) (mM a c x1))/\(a.length:Int)=(a.length:Int)/\(a.length:Int)=(a.length:Int)/\(x1:Int)=(x1:Int)/\(x1:Int)=(x1:Int)/\(a.length:Int)=(a.length:Int)/\(x3:Int)=(x3:Int)/\(x3:Int)=(x3:Int)/\(a.length:Int)=(a.length:Int)/\(0:Int)=(x4:Int)/\a=a/\c=c/\cN a=cN a)/\∀x5:Nat,x5<=a.length/\x3<a.length/\cS a c=Option.or (sY a c x1 x3 x5) (mM a c x1)->ab (decide ((x5:Int)<(a.length:Int))) (ac (x1:Int) c.length/\ac (x3:Int) a.length/\ac (x5:Int) ((a.getD (x3:Int).toNat []).length)/\ac ((List.getD a (x3:Int).toNat []).getD (x5:Int).toNat (0:Int)) ((c.getD (x1:Int).toNat []).length)/\ac (x1:Int) c.length/\ac (x3:Int) ((c.getD (x1:Int).toNat []).length)/\ac (oy c x1 x3) a.length/\ac (x1:Int) (cN a).length/\ac ((cN a).getD (x1:Int).toNat (0:Int)) ((a.getD (oy c x1 x3).toNat []).length)/\ac ((List.getD a (oy c x1 x3).toNat []).getD (((cN a).getD (x1:Int).toNat (0:Int)).toNat) (0:Int)) a.length/\ac (x1:Int) c.length/\ac (x5:Int) ((c.getD (x1:Int).toNat []).length)/\ac (oy c x1 x5) ((a.getD (((List.getD a (oy c x1 x3).toNat []).getD (((cN a).getD (x1:Int).toNat (0:Int)).toNat) (0:Int)).toNat) []).length)/\ab ((List.getD c (x1:Int).toNat []).getD (((List.getD a (x3:Int).toNat []).getD (x5:Int).toNat (0:Int)).toNat) (0:Int) != (List.getD a ((List.getD (List.getD a ((List.getD (List.getD c (x1:Int).toNat []) (x3:Int).toNat (0:Int)).toNat) []) ((List.getD (cN a) (x1:Int).toNat (0:Int)).toNat) (0:Int)).toNat) []).getD (((List.getD c (x1:Int).toNat []).getD (x5:Int).toNat (0:Int)).toNat) (0:Int)) ((false=Option.isNone (cS a c)/\[(x1:Int),(x3:Int),(x5:Int)].length≠(0:Nat))/\True) (ae ((x5:Int)+(1:Int))/\∃x6:Nat,(x6<=a.length/\x3<a.length/\cS a c=Option.or (sY a c x1 x3 x6) (mM a c x1))/\a.length-x6<a.length-x5/\(a.length:Int)=(a.length:Int)/\(a.length:Int)=(a.length:Int)/\(x1:Int)=(x1:Int)/\(x1:Int)=(x1:Int)/\(a.length:Int)=(a.length:Int)/\(x3:Int)=(x3:Int)/\(x3:Int)=(x3:Int)/\(a.length:Int)=(a.length:Int)/\(x5:Int)+(1:Int)=(x6:Int)/\a=a/\c=c/\cN a=cN a)) (ae ((x3:Int)+(1:Int))/\∃x7:Nat,(x7<=a.length/\x1<a.length/\cS a c=Option.or (cI a.length (ia a c x1) (a.length-x7)) (mM a c x1))/\a.length-x7<a.length-x3/\(a.length:Int)=(a.length:Int)/\(a.length:Int)=(a.length:Int)/\(x1:Int)=(x1:Int)/\(x1:Int)=(x1:Int)/\(a.length:Int)=(a.length:Int)/\(x3:Int)+(1:Int)=(x7:Int)/\a=a/\c=c/\cN a=cN a)) (ae ((x1:Int)+(1:Int))/\∃x8:Nat,(x8<=a.length/\cS a c=cI a.length (gq a c) (a.length-x8))/\a.length-x8<a.length-x1/\(a.length:Int)=(a.length:Int)/\(a.length:Int)=(a.length:Int)/\(x1:Int)+(1:Int)=(x8:Int)/\a=a/\c=c/\cN a=cN a)) (true=Option.isNone (cS a c)/\True),by kernel_rfl,?_⟩
 simp only[oy,mM,sY,aO]at ξ⊢;obtain⟨n1,n2,hl,ha,hc,hb⟩:=K6 ξ;have h1:=jV ξ.1
 have hbl:=Ow a
 refine⟨h1,⟨0,⟨by omega,rfl⟩,rfl⟩,λi ⟨hi,hx⟩=>⟨λh=>⟨⟨0,⟨by omega,by omega,?_⟩,rfl⟩,λj ⟨hj,_,hy⟩=>⟨λh2=>⟨⟨0,⟨by omega,by omega,?_⟩,rfl⟩,λk ⟨hk,_,hz⟩=>⟨λh3=>?_,λh3=>?_⟩⟩,λh2=>?_⟩⟩,λh=>?_⟩⟩
 ·rw[hx,lR _ _ i (by omega)];rfl
 ·rw[hy,lR _ _ j (by omega)];rfl
 ·have A:=ha j (by omega)
  have A2:=A.2 k (by omega)
  have C:=hc i (by omega)
  have C1:=C.2 j (by omega)
  have C2:=C.2 k (by omega)
  have B:=hb i (by omega)
  have R1:=ha ((c.getD i []).getD j 0).toNat (by omega)
  have V:=R1.2 (bk a i).toNat (by omega)
  have R2:=ha ((a.getD ((c.getD i []).getD j 0).toNat []).getD (bk a i).toNat 0).toNat (by omega)
  rw[Ox a i (by omega)]
  refine⟨by omega,by omega,by omega,by omega,by omega,by omega,by omega,by omega,by omega,by omega,by omega,by omega,by omega,λh4=>⟨?_,by omega⟩,λh4=>⟨by omega,k+1,⟨by omega,by omega,?_⟩,by omega,by omega⟩⟩
  ·rw[hz,lR _ _ k (by omega),show jW a c i j k=some [(i:Int),(j:Int),(k:Int)] from AB h4];rfl
  ·rw[hz,lR _ _ k (by omega),show jW a c i j k=none from AA h4];rfl
 ·refine⟨by omega,j+1,⟨by omega,by omega,?_⟩,by omega,by omega⟩
  rw[hz,show a.length-k=0 by omega];rfl
 ·refine⟨by omega,i+1,⟨by omega,?_⟩,by omega,by omega⟩
  rw[hy,show a.length-j=0 by omega];rfl
 ·rw[hx,show a.length-i=0 by omega];rfl
def zm:List AD->Option Post
 | [.agg [.rows .i64 a,.rows .i64 c]]=>some ⟨aJ a/\aJ c,.c (.bool (bo a&&bo c&&decide (a.length=c.length))),[]⟩
 |_=>none
def UP:Fits Tryz.prog 79 ⟨[],zm⟩:=by
 refine ffv (Γ:=ah [(98,⟨[],Gg⟩)]) (aq YY aN) Tryz.func79 λds p h ξ=>?_
 unfold zm at h;split at h<;>cases h
 rename_i a c
 refine⟨aj,ar,(aJ a/\True)/\ab (bo a) ((aJ c/\True)/\ab (bo c) (((a.length:Int) == (c.length:Int))=(bo a&&bo c&&decide (a.length=c.length))/\True) (false=(bo a&&bo c&&decide (a.length=c.length))/\True)) (false=(bo a&&bo c&&decide (a.length=c.length))/\True),by kernel_rfl,?_⟩
 simp only[aO]at ξ⊢;obtain⟨r1,r2⟩:=ξ;refine⟨r1,λh=>⟨r2,λh2=>?_,λh2=>by simp[h,h2]⟩,λh=>by simp[h]⟩
 rw[h,h2,Az,Az,Cu,beq_iff_eq,decide_eq_true_iff];omega
def qk:List AD->Option Post
 | [.agg [.rows .i64 a,.rows .i64 c]]=>some ⟨aJ a/\aJ c,.c (.bool (cg a c)),[]⟩
 |_=>none
def zp:Fits Tryz.prog 36 ⟨[],qk⟩:=by
 refine ffv (Γ:=ah [(79,⟨[],zm⟩),(80,⟨[],zj⟩)]) (aq UP (aq UM aN)) Tryz.func36 λds p h ξ=>?_
 unfold qk at h;split at h<;>cases h
 rename_i a c
 refine⟨aj,ar,((aJ a/\aJ c)/\True)/\ab (bo a&&bo c&&decide (a.length=c.length)) ((qj a c/\True)/\Option.isNone (cS a c)=cg a c/\True) (false=cg a c/\True),by kernel_rfl,?_⟩
 simp only[aO]at ξ⊢;refine⟨ξ,λh=>?_,λh=>by rw[cg,h,DO]⟩
 have h2:=h
 simp only[AO,Ai]at h2;exact⟨⟨h2.1.1,h2.1.2,h2.2⟩,by rw[cg,h,Az]⟩
def ta:List AD->Option Post
 | [.agg [.rows .i64 a,.rows .i64 c]]=>some ⟨aJ a/\aJ c,.c (.bool (cg a c)),[]⟩
 |_=>none
def Lg:Fits Tryz.prog 61 ⟨[],ta⟩:=by
 refine ffv (Γ:=ah [(94,⟨[],Gi⟩),(111,⟨[],zh⟩)]) (aq Y5 (aq UJ aN)) Tryz.func61 λds p h ξ=>?_
 unfold ta at h;split at h<;>cases h
 rename_i a c
 refine⟨aj,ar,(aJ a/\True)/\ab (bo a) ((aJ c/\True)/\ab (bo c) (ab ((a.length:Int) == (c.length:Int)) ((qj a c/\True)/\((↑((Option.getD (cS a c) []).length):Int) == (0:Int))=cg a c/\True) (false=cg a c/\True)) (false=cg a c/\True)) (false=cg a c/\True),by kernel_rfl,?_⟩
 simp only[aO]at ξ⊢;obtain⟨r1,r2⟩:=ξ;refine⟨r1,λh=>⟨r2,λh2=>⟨λh3=>⟨⟨h,h2,by omega⟩,?_⟩,λh3=>?_⟩,λh2=>by simp[cg,h2]⟩,λh=>by simp[cg,h]⟩
 ·rw[cg,h,h2,Ab (show a.length=c.length by omega),Az,Az,Az]
  cases hf:cS a c with
  |none=>rfl
  |some l =>
   have hl:=YF hf
   cases l with
   |nil=>exact absurd rfl hl
   |cons x l=>simp;omega
 ·rw[cg,Ad (show ¬ a.length=c.length by omega)];simp
end Go.Sx
