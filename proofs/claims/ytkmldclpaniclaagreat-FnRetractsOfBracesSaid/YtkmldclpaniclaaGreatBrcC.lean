/- BrcC -/
import Derived.Test.YtkmldclpaniclaaGreatGrpC
set_option linter.unusedSimpArgs false
set_option linter.unusedVariables false
set_option linter.defProp false
open Go Go.Proofs
namespace Go.Sx
def eS(a c:Dc):Prop:=bd a=true/\bd c=true/\a.length=c.length
theorem lj{a c:Dc}(h:eS a c):1<=a.length/\a.length<=12/\c.length=a.length /\
  (∀x,x<a.length->(a.getD x []).length=a.length/\∀y,y<a.length->0<=(a.getD x []).getD y 0/\(a.getD x []).getD y 0<=(a.length:Int)-1) /\
  (∀x,x<a.length->(c.getD x []).length=a.length/\∀y,y<a.length->0<=(c.getD x []).getD y 0/\(c.getD x []).getD y 0<=(a.length:Int)-1) /\
  (∀x,x<a.length->0<=bk a x/\bk a x<=(a.length:Int)-1):=by
 obtain⟨h1,h2,h3⟩:=h;obtain⟨n1,n2,ha⟩:=bT (gC h1);obtain⟨_,_,hc⟩:=bT (gC h2);rw[<-h3]at hc;exact⟨n1,n2,h3.symm,ha,hc,fun x hx=>zI h1 hx⟩
def yy:List AD->Option Post
 | [.agg [.rows .i64 a,.rows .i64 c]]=>some ⟨eS a c,.c (.ints 2 .i64 ((cG a c).getD [])),[]⟩
 |_=>none
def Jj(a:Dc)(c:Dc):Nat->Option Ann
 |0=>V' (fun i=>⟨⟨[(1,N' 1),(3,D' a.length),(4,D' i)],[(1,T' [.ro (.rows .i64 a),.ro (.rows .i64 c)])]⟩,i<=a.length/\cG a c=cb a.length (fY a c) (a.length-i),a.length-i⟩) (fun i b_=>match b_ with|2=>V' (fun j=>⟨⟨[(1,N' 1),(3,D' a.length),(4,D' i),(5,D' (bk a i)),(6,D' j)],[(1,T' [.ro (.rows .i64 a),.ro (.rows .i64 c)])]⟩,j<=a.length/\i<a.length/\cG a c=(cb a.length (gY a c i) (a.length-j)).or (cb a.length (fY a c) (a.length-(i+1))),a.length-j⟩) (fun j b_=>match b_ with|4=>U' fun k=>⟨⟨[(1,N' 1),(3,D' a.length),(4,D' i),(5,D' (bk a i)),(6,D' j),(7,D' k)],[(1,T' [.ro (.rows .i64 a),.ro (.rows .i64 c)])]⟩,k<=a.length/\j<a.length/\cG a c=((cb a.length (iE a c i j) (a.length-k)).or (cb a.length (gY a c i) (a.length-(j+1)))).or (cb a.length (fY a c) (a.length-(i+1))),a.length-k⟩|_=>none)|_=>none)
 |_=>none
def nM(c:Dc)(x0:Nat)(x1:Nat):=((List.getD c (↑x0:Int).toNat []).getD (↑x1:Int).toNat (0:Int))
def mg(a:Dc)(c:Dc)(x0:Nat):=(cb a.length (fY a c) (a.length-(x0+(1:Nat))))
def rU(a:Dc)(c:Dc)(x0:Nat)(x1:Nat)(x2:Nat):=(Option.or (cb a.length (iE a c x0 x1) (a.length-x2)) (cb a.length (gY a c x0) (a.length-(x1+(1:Nat)))))
theorem RJ:Fits Tryz.prog 111 ⟨[],yy⟩:=by
 refine ffv (Γ:=af [(156,⟨[],zN⟩)]) (aj T0 aG) Tryz.func111 fun ds p h ξ=>?_
 unfold yy at h;split at h<;>cases h
 rename_i a c
 refine⟨ah,Jj a c,(∃x0:Nat,(x0<=a.length/\cG a c=cb a.length (fY a c) (a.length-x0))/\(a.length:Int)=(a.length:Int)/\(0:Int)=(x0:Int)/\a=a/\c=c)/\∀x1:Nat,x1<=a.length/\cG a c=cb a.length (fY a c) (a.length-x1)->ab (decide ((x1:Int)<(a.length:Int))) (((aM a=true/\(0:Int)<=(x1:Int)/\(x1:Int)<=(a.length:Int)-(1:Int))/\True)/\(∃x2:Nat,(x2<=a.length/\x1<a.length/\cG a c=Option.or (cb a.length (gY a c x1) (a.length-x2)) (mg a c x1))/\(a.length:Int)=(a.length:Int)/\(x1:Int)=(x1:Int)/\bk a (x1:Int).toNat=bk a x1/\(0:Int)=(x2:Int)/\a=a/\c=c)/\∀x3:Nat,x3<=a.length/\x1<a.length/\cG a c=Option.or (cb a.length (gY a c x1) (a.length-x3)) (mg a c x1)->ab (decide ((x3:Int)<(a.length:Int))) ((∃x4:Nat,(x4<=a.length/\x3<a.length/\cG a c=Option.or (rU a c x1 x3 x4) (mg a c x1))/\(a.length:Int)=(a.length:Int)/\(x1:Int)=(x1:Int)/\bk a x1=bk a x1/\(x3:Int)=(x3:Int)/\(0:Int)=(x4:Int)/\a=a/\c=c)/\∀x5:Nat,x5<=a.length/\x3<a.length/\cG a c=Option.or (rU a c x1 x3 x5) (mg a c x1)->ab (decide ((x5:Int)<(a.length:Int))) (aa (x1:Int) c.length/\aa (x3:Int) a.length/\aa (x5:Int) ((a.getD (x3:Int).toNat []).length)/\aa ((List.getD a (x3:Int).toNat []).getD (x5:Int).toNat (0:Int)) ((c.getD (x1:Int).toNat []).length)/\aa (x1:Int) c.length/\aa (x3:Int) ((c.getD (x1:Int).toNat []).length)/\aa (nM c x1 x3) a.length/\aa (bk a x1) ((a.getD (nM c x1 x3).toNat []).length)/\aa ((List.getD a (nM c x1 x3).toNat []).getD (bk a x1).toNat (0:Int)) a.length/\aa (x1:Int) c.length/\aa (x5:Int) ((c.getD (x1:Int).toNat []).length)/\aa (nM c x1 x5) ((a.getD (((List.getD a (nM c x1 x3).toNat []).getD (bk a x1).toNat (0:Int)).toNat) []).length)/\ab ((List.getD c (x1:Int).toNat []).getD (((List.getD a (x3:Int).toNat []).getD (x5:Int).toNat (0:Int)).toNat) (0:Int) != (List.getD a ((List.getD (List.getD a ((List.getD (List.getD c (x1:Int).toNat []) (x3:Int).toNat (0:Int)).toNat) []) (bk a x1).toNat (0:Int)).toNat) []).getD (((List.getD c (x1:Int).toNat []).getD (x5:Int).toNat (0:Int)).toNat) (0:Int)) ([(x1:Int),(x3:Int),(x5:Int)]=Option.getD (cG a c) []/\True) (ae ((x5:Int)+(1:Int))/\∃x6:Nat,(x6<=a.length/\x3<a.length/\cG a c=Option.or (rU a c x1 x3 x6) (mg a c x1))/\a.length-x6<a.length-x5/\(a.length:Int)=(a.length:Int)/\(x1:Int)=(x1:Int)/\bk a x1=bk a x1/\(x3:Int)=(x3:Int)/\(x5:Int)+(1:Int)=(x6:Int)/\a=a/\c=c)) (ae ((x3:Int)+(1:Int))/\∃x7:Nat,(x7<=a.length/\x1<a.length/\cG a c=Option.or (cb a.length (gY a c x1) (a.length-x7)) (mg a c x1))/\a.length-x7<a.length-x3/\(a.length:Int)=(a.length:Int)/\(x1:Int)=(x1:Int)/\bk a x1=bk a x1/\(x3:Int)+(1:Int)=(x7:Int)/\a=a/\c=c)) (ae ((x1:Int)+(1:Int))/\∃x8:Nat,(x8<=a.length/\cG a c=cb a.length (fY a c) (a.length-x8))/\a.length-x8<a.length-x1/\(a.length:Int)=(a.length:Int)/\(x1:Int)+(1:Int)=(x8:Int)/\a=a/\c=c)) ([]=Option.getD (cG a c) []/\True),by kernel_rfl,?_⟩
 simp only[nM,mg,rU,aH]at ξ⊢;obtain⟨n1,n2,hl,ha,hc,hb⟩:=lj ξ;have h1:=gC ξ.1
 refine⟨⟨0,⟨by omega,rfl⟩,rfl⟩,fun i ⟨hi,hx⟩=>⟨fun h=>⟨⟨h1,by omega,by omega⟩,⟨0,⟨by omega,by omega,?_⟩,rfl⟩,fun j ⟨hj,_,hy⟩=>⟨fun h2=>⟨⟨0,⟨by omega,by omega,?_⟩,rfl⟩,fun k ⟨hk,_,hz⟩=>⟨fun h3=>?_,fun h3=>?_⟩⟩,fun h2=>?_⟩⟩,fun h=>?_⟩⟩
 ·rw[hx,lB _ _ i (by omega)];rfl
 ·rw[hy,lB _ _ j (by omega)];rfl
 ·have A:=ha j (by omega)
  have A2:=A.2 k (by omega)
  have C:=hc i (by omega)
  have C1:=C.2 j (by omega)
  have C2:=C.2 k (by omega)
  have B:=hb i (by omega)
  have R1:=ha ((c.getD i []).getD j 0).toNat (by omega)
  have V:=R1.2 (bk a i).toNat (by omega)
  have R2:=ha ((a.getD ((c.getD i []).getD j 0).toNat []).getD (bk a i).toNat 0).toNat (by omega)
  refine⟨by omega,by omega,by omega,by omega,by omega,by omega,by omega,by omega,by omega,by omega,by omega,by omega,fun h4=>?_,fun h4=>⟨by omega,k+1,⟨by omega,by omega,?_⟩,by omega,by omega⟩⟩
  ·rw[hz,lB _ _ k (by omega),show iE a c i j k=some [(i:Int),(j:Int),(k:Int)] from AB h4];rfl
  ·rw[hz,lB _ _ k (by omega),show iE a c i j k=none from AA h4];rfl
 ·refine⟨by omega,j+1,⟨by omega,by omega,?_⟩,by omega,by omega⟩
  rw[hz,show a.length-k=0 by omega];rfl
 ·refine⟨by omega,i+1,⟨by omega,?_⟩,by omega,by omega⟩
  rw[hy,show a.length-j=0 by omega];rfl
 ·rw[hx,show a.length-i=0 by omega];rfl
def yA:List AD->Option Post
 | [.agg [.rows .i64 a,.rows .i64 c]]=>some ⟨eS a c,.c (.nilq (cG a c).isNone),[]⟩
 |_=>none
def Jl(a:Dc)(c:Dc):Nat->Option Ann
 |0=>V' (fun i=>⟨⟨[(1,N' 1),(3,M' 10),(4,D' a.length),(14,D' a.length),(15,D' i)],[(1,T' [.ro (.rows .i64 a),.ro (.rows .i64 c)]),(10,Q' (bB a))]⟩,i<=a.length/\cG a c=cb a.length (fY a c) (a.length-i),a.length-i⟩) (fun i b_=>match b_ with|2=>V' (fun j=>⟨⟨[(1,N' 1),(3,M' 10),(4,D' a.length),(14,D' a.length),(15,D' i),(5,D' i),(18,D' a.length),(19,D' j)],[(1,T' [.ro (.rows .i64 a),.ro (.rows .i64 c)]),(10,Q' (bB a))]⟩,j<=a.length/\i<a.length/\cG a c=(cb a.length (gY a c i) (a.length-j)).or (cb a.length (fY a c) (a.length-(i+1))),a.length-j⟩) (fun j b_=>match b_ with|4=>U' fun k=>⟨⟨[(1,N' 1),(3,M' 10),(4,D' a.length),(14,D' a.length),(15,D' i),(5,D' i),(18,D' a.length),(19,D' j),(6,D' j),(22,D' a.length),(23,D' k)],[(1,T' [.ro (.rows .i64 a),.ro (.rows .i64 c)]),(10,Q' (bB a))]⟩,k<=a.length/\j<a.length/\cG a c=((cb a.length (iE a c i j) (a.length-k)).or (cb a.length (gY a c i) (a.length-(j+1)))).or (cb a.length (fY a c) (a.length-(i+1))),a.length-k⟩|_=>none)|_=>none)
 |_=>none
def nN(c:Dc)(x0:Nat)(x1:Nat):=((List.getD c (↑x0:Int).toNat []).getD (↑x1:Int).toNat (0:Int))
def mh(a:Dc)(c:Dc)(x0:Nat):=(cb a.length (fY a c) (a.length-(x0+(1:Nat))))
def rW(a:Dc)(c:Dc)(x0:Nat)(x1:Nat)(x2:Nat):=(Option.or (cb a.length (iE a c x0 x1) (a.length-x2)) (cb a.length (gY a c x0) (a.length-(x1+(1:Nat)))))
theorem RM:Fits Tryz.prog 80 ⟨[],yA⟩:=by
 refine ffv (Γ:=af [(114,⟨[],oh⟩)]) (aj tk aG) Tryz.func80 fun ds p h ξ=>?_
 unfold yA at h;split at h<;>cases h
 rename_i a c
 refine⟨ah,Jl a c,(aM a=true/\True)/\(∃x0:Nat,(x0<=a.length/\cG a c=cb a.length (fY a c) (a.length-x0))/\(a.length:Int)=(a.length:Int)/\(a.length:Int)=(a.length:Int)/\(0:Int)=(x0:Int)/\a=a/\c=c/\bB a=bB a)/\∀x1:Nat,x1<=a.length/\cG a c=cb a.length (fY a c) (a.length-x1)->ab (decide ((x1:Int)<(a.length:Int))) ((∃x2:Nat,(x2<=a.length/\x1<a.length/\cG a c=Option.or (cb a.length (gY a c x1) (a.length-x2)) (mh a c x1))/\(a.length:Int)=(a.length:Int)/\(a.length:Int)=(a.length:Int)/\(x1:Int)=(x1:Int)/\(x1:Int)=(x1:Int)/\(a.length:Int)=(a.length:Int)/\(0:Int)=(x2:Int)/\a=a/\c=c/\bB a=bB a)/\∀x3:Nat,x3<=a.length/\x1<a.length/\cG a c=Option.or (cb a.length (gY a c x1) (a.length-x3)) (mh a c x1)->ab (decide ((x3:Int)<(a.length:Int))) ((∃x4:Nat,(x4<=a.length/\x3<a.length/\cG a c=Option.or (rW a c x1 x3 x4) (mh a c x1))/\(a.length:Int)=(a.length:Int)/\(a.length:Int)=(a.length:Int)/\(x1:Int)=(x1:Int)/\(x1:Int)=(x1:Int)/\(a.length:Int)=(a.length:Int)/\(x3:Int)=(x3:Int)/\(x3:Int)=(x3:Int)/\(a.length:Int)=(a.length:Int)/\(0:Int)=(x4:Int)/\a=a/\c=c/\bB a=bB a)/\∀x5:Nat,x5<=a.length/\x3<a.length/\cG a c=Option.or (rW a c x1 x3 x5) (mh a c x1)->ab (decide ((x5:Int)<(a.length:Int))) (aa (x1:Int) c.length/\aa (x3:Int) a.length/\aa (x5:Int) ((a.getD (x3:Int).toNat []).length)/\aa ((List.getD a (x3:Int).toNat []).getD (x5:Int).toNat (0:Int)) ((c.getD (x1:Int).toNat []).length)/\aa (x1:Int) c.length/\aa (x3:Int) ((c.getD (x1:Int).toNat []).length)/\aa (nN c x1 x3) a.length/\aa (x1:Int) (bB a).length/\aa ((bB a).getD (x1:Int).toNat (0:Int)) ((a.getD (nN c x1 x3).toNat []).length)/\aa ((List.getD a (nN c x1 x3).toNat []).getD (((bB a).getD (x1:Int).toNat (0:Int)).toNat) (0:Int)) a.length/\aa (x1:Int) c.length/\aa (x5:Int) ((c.getD (x1:Int).toNat []).length)/\aa (nN c x1 x5) ((a.getD (((List.getD a (nN c x1 x3).toNat []).getD (((bB a).getD (x1:Int).toNat (0:Int)).toNat) (0:Int)).toNat) []).length)/\ab ((List.getD c (x1:Int).toNat []).getD (((List.getD a (x3:Int).toNat []).getD (x5:Int).toNat (0:Int)).toNat) (0:Int) != (List.getD a ((List.getD (List.getD a ((List.getD (List.getD c (x1:Int).toNat []) (x3:Int).toNat (0:Int)).toNat) []) ((List.getD (bB a) (x1:Int).toNat (0:Int)).toNat) (0:Int)).toNat) []).getD (((List.getD c (x1:Int).toNat []).getD (x5:Int).toNat (0:Int)).toNat) (0:Int)) ((false=Option.isNone (cG a c)/\[(x1:Int),(x3:Int),(x5:Int)].length≠(0:Nat))/\True) (ae ((x5:Int)+(1:Int))/\∃x6:Nat,(x6<=a.length/\x3<a.length/\cG a c=Option.or (rW a c x1 x3 x6) (mh a c x1))/\a.length-x6<a.length-x5/\(a.length:Int)=(a.length:Int)/\(a.length:Int)=(a.length:Int)/\(x1:Int)=(x1:Int)/\(x1:Int)=(x1:Int)/\(a.length:Int)=(a.length:Int)/\(x3:Int)=(x3:Int)/\(x3:Int)=(x3:Int)/\(a.length:Int)=(a.length:Int)/\(x5:Int)+(1:Int)=(x6:Int)/\a=a/\c=c/\bB a=bB a)) (ae ((x3:Int)+(1:Int))/\∃x7:Nat,(x7<=a.length/\x1<a.length/\cG a c=Option.or (cb a.length (gY a c x1) (a.length-x7)) (mh a c x1))/\a.length-x7<a.length-x3/\(a.length:Int)=(a.length:Int)/\(a.length:Int)=(a.length:Int)/\(x1:Int)=(x1:Int)/\(x1:Int)=(x1:Int)/\(a.length:Int)=(a.length:Int)/\(x3:Int)+(1:Int)=(x7:Int)/\a=a/\c=c/\bB a=bB a)) (ae ((x1:Int)+(1:Int))/\∃x8:Nat,(x8<=a.length/\cG a c=cb a.length (fY a c) (a.length-x8))/\a.length-x8<a.length-x1/\(a.length:Int)=(a.length:Int)/\(a.length:Int)=(a.length:Int)/\(x1:Int)+(1:Int)=(x8:Int)/\a=a/\c=c/\bB a=bB a)) (true=Option.isNone (cG a c)/\True),by kernel_rfl,?_⟩
 simp only[nN,mh,rW,aH]at ξ⊢;obtain⟨n1,n2,hl,ha,hc,hb⟩:=lj ξ;have h1:=gC ξ.1
 have hbl:=pM a
 refine⟨h1,⟨0,⟨by omega,rfl⟩,rfl⟩,fun i ⟨hi,hx⟩=>⟨fun h=>⟨⟨0,⟨by omega,by omega,?_⟩,rfl⟩,fun j ⟨hj,_,hy⟩=>⟨fun h2=>⟨⟨0,⟨by omega,by omega,?_⟩,rfl⟩,fun k ⟨hk,_,hz⟩=>⟨fun h3=>?_,fun h3=>?_⟩⟩,fun h2=>?_⟩⟩,fun h=>?_⟩⟩
 ·rw[hx,lB _ _ i (by omega)];rfl
 ·rw[hy,lB _ _ j (by omega)];rfl
 ·have A:=ha j (by omega)
  have A2:=A.2 k (by omega)
  have C:=hc i (by omega)
  have C1:=C.2 j (by omega)
  have C2:=C.2 k (by omega)
  have B:=hb i (by omega)
  have R1:=ha ((c.getD i []).getD j 0).toNat (by omega)
  have V:=R1.2 (bk a i).toNat (by omega)
  have R2:=ha ((a.getD ((c.getD i []).getD j 0).toNat []).getD (bk a i).toNat 0).toNat (by omega)
  rw[pN a i (by omega)]
  refine⟨by omega,by omega,by omega,by omega,by omega,by omega,by omega,by omega,by omega,by omega,by omega,by omega,by omega,fun h4=>⟨?_,by omega⟩,fun h4=>⟨by omega,k+1,⟨by omega,by omega,?_⟩,by omega,by omega⟩⟩
  ·rw[hz,lB _ _ k (by omega),show iE a c i j k=some [(i:Int),(j:Int),(k:Int)] from AB h4];rfl
  ·rw[hz,lB _ _ k (by omega),show iE a c i j k=none from AA h4];rfl
 ·refine⟨by omega,j+1,⟨by omega,by omega,?_⟩,by omega,by omega⟩
  rw[hz,show a.length-k=0 by omega];rfl
 ·refine⟨by omega,i+1,⟨by omega,?_⟩,by omega,by omega⟩
  rw[hy,show a.length-j=0 by omega];rfl
 ·rw[hx,show a.length-i=0 by omega];rfl
def yC:List AD->Option Post
 | [.agg [.rows .i64 a,.rows .i64 c]]=>some ⟨aD a/\aD c,.c (.bool (bd a&&bd c&&decide (a.length=c.length))),[]⟩
 |_=>none
theorem RP:Fits Tryz.prog 79 ⟨[],yC⟩:=by
 refine ffv (Γ:=af [(98,⟨[],zP⟩)]) (aj T6 aG) Tryz.func79 fun ds p h ξ=>?_
 unfold yC at h;split at h<;>cases h
 rename_i a c
 refine⟨ah,ak,(aD a/\True)/\ab (bd a) ((aD c/\True)/\ab (bd c) (((a.length:Int) == (c.length:Int))=(bd a&&bd c&&decide (a.length=c.length))/\True) (false=(bd a&&bd c&&decide (a.length=c.length))/\True)) (false=(bd a&&bd c&&decide (a.length=c.length))/\True),by kernel_rfl,?_⟩
 simp only[aH]at ξ⊢;obtain⟨r1,r2⟩:=ξ;refine⟨r1,fun h=>⟨r2,fun h2=>?_,fun h2=>by simp[h,h2]⟩,fun h=>by simp[h]⟩
 rw[h,h2,Ac,Ac,Bf,beq_iff_eq,decide_eq_true_iff];omega
def nO:List AD->Option Post
 | [.agg [.rows .i64 a,.rows .i64 c]]=>some ⟨aD a/\aD c,.c (.bool (bM a c)),[]⟩
 |_=>none
theorem rZ:Fits Tryz.prog 36 ⟨[],nO⟩:=by
 refine ffv (Γ:=af [(79,⟨[],yC⟩),(80,⟨[],yA⟩)]) (aj RP (aj RM aG)) Tryz.func36 fun ds p h ξ=>?_
 unfold nO at h;split at h<;>cases h
 rename_i a c
 refine⟨ah,ak,((aD a/\aD c)/\True)/\ab (bd a&&bd c&&decide (a.length=c.length)) ((eS a c/\True)/\Option.isNone (cG a c)=bM a c/\True) (false=bM a c/\True),by kernel_rfl,?_⟩
 simp only[aH]at ξ⊢;refine⟨ξ,fun h=>?_,fun h=>by rw[bM,h,Bq]⟩
 have h2:=h
 simp only[AG,AQ]at h2;exact⟨⟨h2.1.1,h2.1.2,h2.2⟩,by rw[bM,h,Ac]⟩
def sc:List AD->Option Post
 | [.agg [.rows .i64 a,.rows .i64 c]]=>some ⟨aD a/\aD c,.c (.bool (bM a c)),[]⟩
 |_=>none
theorem Jq:Fits Tryz.prog 61 ⟨[],sc⟩:=by
 refine ffv (Γ:=af [(94,⟨[],zR⟩),(111,⟨[],yy⟩)]) (aj T9 (aj RJ aG)) Tryz.func61 fun ds p h ξ=>?_
 unfold sc at h;split at h<;>cases h
 rename_i a c
 refine⟨ah,ak,(aD a/\True)/\ab (bd a) ((aD c/\True)/\ab (bd c) (ab ((a.length:Int) == (c.length:Int)) ((eS a c/\True)/\((↑((Option.getD (cG a c) []).length):Int) == (0:Int))=bM a c/\True) (false=bM a c/\True)) (false=bM a c/\True)) (false=bM a c/\True),by kernel_rfl,?_⟩
 simp only[aH]at ξ⊢;obtain⟨r1,r2⟩:=ξ;refine⟨r1,fun h=>⟨r2,fun h2=>⟨fun h3=>⟨⟨h,h2,by omega⟩,?_⟩,fun h3=>?_⟩,fun h2=>by simp[bM,h2]⟩,fun h=>by simp[bM,h]⟩
 ·rw[bM,h,h2,AY (show a.length=c.length by omega),Ac,Ac,Ac]
  cases hf:cG a c with
  |none=>rfl
  |some l =>
   have hl:=TP hf
   cases l with
   |nil=>exact absurd rfl hl
   |cons x l=>simp;omega
 ·rw[bM,AZ (show ¬ a.length=c.length by omega)];simp
def pD:List AD->Option Post
 | [.c (.int .i64 x),.c (.int .i64 y),.box [.rows .i64 a,.rows .i64 c],.box [.ints .i64 m]]=>some ⟨eS a c/\m=bB a/\0<=x/\x<(a.length:Int)/\0<=y/\y<(a.length:Int),.c (.int .i64 (gD a c x.toNat y.toNat)),[]⟩
 |_=>none
theorem RX:Fits Tryz.prog 125 ⟨[],pD⟩:=by
 refine ffv (Γ:=af []) aG Tryz.func125 fun ds p h ξ=>?_
 unfold pD at h;split at h<;>cases h
 rename_i x y a c m
 refine⟨ah,ak,aa x m.length/\aa (m.getD x.toNat (0:Int)) a.length/\aa x c.length/\aa y (c.getD x.toNat []).length/\aa ((List.getD c x.toNat []).getD y.toNat (0:Int)) ((a.getD ((m.getD x.toNat (0:Int)).toNat) []).length)/\(List.getD a ((List.getD m x.toNat (0:Int)).toNat) []).getD (((List.getD c x.toNat []).getD y.toNat (0:Int)).toNat) (0:Int)=gD a c x.toNat y.toNat/\True,by kernel_rfl,?_⟩
 simp only[aH]at ξ⊢;obtain⟨h,rfl,x1,x2,y1,y2⟩:=ξ;obtain⟨n1,n2,hl,ha,hc,hb⟩:=lj h;have hbl:=pM a
 have B:=hb x.toNat (by omega)
 have C:=hc x.toNat (by omega)
 have C1:=C.2 y.toNat (by omega)
 rw[pN a x.toNat (by omega)]
 have R:=ha (bk a x.toNat).toNat (by omega)
 exact⟨by omega,by omega,by omega,by omega,by omega,rfl⟩
def sf:List AD->Option Post
 | [.agg [.rows .i64 a,.rows .i64 c]]=>some ⟨eS a c,.c (.rows 62 2 .i64 (aS a c)),[]⟩
 |_=>none
theorem Jt:Fits Tryz.prog 69 ⟨[],sf⟩:=by
 refine ffv (Γ:=af [(114,⟨[],oh⟩),(124,⟨[],pB⟩),(125,⟨[],pD⟩)]) (aj tk (aj yx (aj RX aG))) Tryz.func69 fun ds p h ξ=>?_
 unfold sf at h;split at h<;>cases h
 rename_i a c
 refine⟨ah,ak,(aM a=true/\True)/\(((0:Int)<=(a.length:Int)/\(a.length:Int)<=(144:Int)/\∀(x y:Int),(0:Int)<=x->x<(a.length:Int)->(0:Int)<=y->y<(a.length:Int)->jU (pD [AD.c (FC.int IntKind.i64 x),AD.c (FC.int IntKind.i64 y),AD.box [FC.rows IntKind.i64 a,FC.rows IntKind.i64 c],AD.box [FC.ints IntKind.i64 (bB a)]]))/\True)/\(bq ((a.length:Int).toNat) fun(x y:Nat)=>kK (pD [AD.c (FC.int IntKind.i64 (x:Int)),AD.c (FC.int IntKind.i64 (y:Int)),AD.box [FC.rows IntKind.i64 a,FC.rows IntKind.i64 c],AD.box [FC.ints IntKind.i64 (bB a)]]))=aS a c/\True,by kernel_rfl,?_⟩
 simp only[aH]at ξ⊢;obtain⟨n1,n2,hl,ha,hc,hb⟩:=lj ξ;exact⟨gC ξ.1,⟨by omega,by omega,fun x y a1 a2 a3 a4=>⟨ξ,rfl,a1,a2,a3,a4⟩⟩,iZ fun x y hx hy=>rfl⟩
end Go.Sx
