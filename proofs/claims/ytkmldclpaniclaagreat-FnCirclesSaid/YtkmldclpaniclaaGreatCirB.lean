/- CirB -/
import Derived.Test.YtkmldclpaniclaaGreatGrpC
import Derived.Test.YtkmldclpaniclaaGreatEqt
set_option linter.unusedSimpArgs false
set_option linter.unusedVariables false
set_option linter.defProp false
open Go Go.Proofs
namespace Go.Sx
def yA(a c:D2):Prop:=aC a=true/\aC c=true/\a.length=c.length
theorem SY{a c:D2}(h:yA a c):1<=a.length/\a.length<=12/\c.length=a.length /\
  (∀x,x<a.length->(a.getD x []).length=a.length/\∀y,y<a.length->0<=(a.getD x []).getD y 0/\(a.getD x []).getD y 0<=(a.length:Int)-1) /\
  (∀x,x<a.length->(c.getD x []).length=a.length/\∀y,y<a.length->0<=(c.getD x []).getD y 0/\(c.getD x []).getD y 0<=(a.length:Int)-1) /\
  (∀x,x<a.length->0<=bk a x/\bk a x<=(a.length:Int)-1):=by
 obtain⟨h1,h2,h3⟩:=h;obtain⟨n1,n2,ha⟩:=iN (kV h1);obtain⟨_,_,hc⟩:=iN (kV h2);rw[<-h3]at hc;exact⟨n1,n2,h3.symm,ha,hc,fun x hx=>UF h1 hx⟩
def yB:List AD->Option Post
 | [.agg [.rows .i64 a,.rows .i64 c]]=>some ⟨yA a c,.c (.nilq (eW a c).isNone),[]⟩
 |_=>none
def JR(a:D2)(c:D2):Nat->Option Ann
 |0=>T' (fun i=>⟨⟨[(1,M' 1),(3,J' 10),(4,A' a.length),(14,A' a.length),(15,A' i)],[(1,P' [.ro (.rows .i64 a),.ro (.rows .i64 c)]),(10,O' (cC a))]⟩,i<=a.length/\eW a c=dU a.length (kW a c) (a.length-i),a.length-i⟩) (fun i b_=>match b_ with|2=>T' (fun j=>⟨⟨[(1,M' 1),(3,J' 10),(4,A' a.length),(14,A' a.length),(15,A' i),(5,A' i),(18,A' a.length),(19,A' j)],[(1,P' [.ro (.rows .i64 a),.ro (.rows .i64 c)]),(10,O' (cC a))]⟩,j<=a.length/\i<a.length/\eW a c=(dU a.length (mn a c i) (a.length-j)).or (dU a.length (kW a c) (a.length-(i+1))),a.length-j⟩) (fun j b_=>match b_ with|4=>Q' fun k=>⟨⟨[(1,M' 1),(3,J' 10),(4,A' a.length),(14,A' a.length),(15,A' i),(5,A' i),(18,A' a.length),(19,A' j),(6,A' j),(22,A' a.length),(23,A' k)],[(1,P' [.ro (.rows .i64 a),.ro (.rows .i64 c)]),(10,O' (cC a))]⟩,k<=a.length/\j<a.length/\eW a c=((dU a.length (nX a c i j) (a.length-k)).or (dU a.length (mn a c i) (a.length-(j+1)))).or (dU a.length (kW a c) (a.length-(i+1))),a.length-k⟩|_=>none)|_=>none)
 |_=>none
def nH(c:D2)(x0:Nat)(x1:Nat):=((List.getD c (↑x0:Int).toNat []).getD (↑x1:Int).toNat (0:Int))
def md(a:D2)(c:D2)(x0:Nat):=(dU a.length (kW a c) (a.length-(x0+(1:Nat))))
def sb(a:D2)(c:D2)(x0:Nat)(x1:Nat)(x2:Nat):=(Option.or (dU a.length (nX a c x0 x1) (a.length-x2)) (dU a.length (mn a c x0) (a.length-(x1+(1:Nat)))))
theorem S3:Fits Tryz.prog 80 ⟨[],yB⟩:=by
 refine ffv (Γ:=ah [(114,⟨[],zZ⟩)]) (aw US aI) Tryz.func80 fun ds p h ξ=>?_
 unfold yB at h;split at h<;>cases h
 rename_i a c
 refine⟨aj,JR a c,(cj a=true/\True)/\(∃x0:Nat,(x0<=a.length/\eW a c=dU a.length (kW a c) (a.length-x0))/\(a.length:Int)=(a.length:Int)/\(a.length:Int)=(a.length:Int)/\(0:Int)=(x0:Int)/\a=a/\c=c/\cC a=cC a)/\∀x1:Nat,x1<=a.length/\eW a c=dU a.length (kW a c) (a.length-x1)->ab (decide ((x1:Int)<(a.length:Int))) ((∃x2:Nat,(x2<=a.length/\x1<a.length/\eW a c=Option.or (dU a.length (mn a c x1) (a.length-x2)) (md a c x1))/\(a.length:Int)=(a.length:Int)/\(a.length:Int)=(a.length:Int)/\(x1:Int)=(x1:Int)/\(x1:Int)=(x1:Int)/\(a.length:Int)=(a.length:Int)/\(0:Int)=(x2:Int)/\a=a/\c=c/\cC a=cC a)/\∀x3:Nat,x3<=a.length/\x1<a.length/\eW a c=Option.or (dU a.length (mn a c x1) (a.length-x3)) (md a c x1)->ab (decide ((x3:Int)<(a.length:Int))) ((∃x4:Nat,(x4<=a.length/\x3<a.length/\eW a c=Option.or (sb a c x1 x3 x4) (md a c x1))/\(a.length:Int)=(a.length:Int)/\(a.length:Int)=(a.length:Int)/\(x1:Int)=(x1:Int)/\(x1:Int)=(x1:Int)/\(a.length:Int)=(a.length:Int)/\(x3:Int)=(x3:Int)/\(x3:Int)=(x3:Int)/\(a.length:Int)=(a.length:Int)/\(0:Int)=(x4:Int)/\a=a/\c=c/\cC a=cC a)/\∀x5:Nat,x5<=a.length/\x3<a.length/\eW a c=Option.or (sb a c x1 x3 x5) (md a c x1)->ab (decide ((x5:Int)<(a.length:Int))) (ac (x1:Int) c.length/\ac (x3:Int) a.length/\ac (x5:Int) ((a.getD (x3:Int).toNat []).length)/\ac ((List.getD a (x3:Int).toNat []).getD (x5:Int).toNat (0:Int)) ((c.getD (x1:Int).toNat []).length)/\ac (x1:Int) c.length/\ac (x3:Int) ((c.getD (x1:Int).toNat []).length)/\ac (nH c x1 x3) a.length/\ac (x1:Int) (cC a).length/\ac ((cC a).getD (x1:Int).toNat (0:Int)) ((a.getD (nH c x1 x3).toNat []).length)/\ac ((List.getD a (nH c x1 x3).toNat []).getD (((cC a).getD (x1:Int).toNat (0:Int)).toNat) (0:Int)) a.length/\ac (x1:Int) c.length/\ac (x5:Int) ((c.getD (x1:Int).toNat []).length)/\ac (nH c x1 x5) ((a.getD (((List.getD a (nH c x1 x3).toNat []).getD (((cC a).getD (x1:Int).toNat (0:Int)).toNat) (0:Int)).toNat) []).length)/\ab ((List.getD c (x1:Int).toNat []).getD (((List.getD a (x3:Int).toNat []).getD (x5:Int).toNat (0:Int)).toNat) (0:Int) != (List.getD a ((List.getD (List.getD a ((List.getD (List.getD c (x1:Int).toNat []) (x3:Int).toNat (0:Int)).toNat) []) ((List.getD (cC a) (x1:Int).toNat (0:Int)).toNat) (0:Int)).toNat) []).getD (((List.getD c (x1:Int).toNat []).getD (x5:Int).toNat (0:Int)).toNat) (0:Int)) ((false=Option.isNone (eW a c)/\[(x1:Int),(x3:Int),(x5:Int)].length≠(0:Nat))/\True) (af ((x5:Int)+(1:Int))/\∃x6:Nat,(x6<=a.length/\x3<a.length/\eW a c=Option.or (sb a c x1 x3 x6) (md a c x1))/\a.length-x6<a.length-x5/\(a.length:Int)=(a.length:Int)/\(a.length:Int)=(a.length:Int)/\(x1:Int)=(x1:Int)/\(x1:Int)=(x1:Int)/\(a.length:Int)=(a.length:Int)/\(x3:Int)=(x3:Int)/\(x3:Int)=(x3:Int)/\(a.length:Int)=(a.length:Int)/\(x5:Int)+(1:Int)=(x6:Int)/\a=a/\c=c/\cC a=cC a)) (af ((x3:Int)+(1:Int))/\∃x7:Nat,(x7<=a.length/\x1<a.length/\eW a c=Option.or (dU a.length (mn a c x1) (a.length-x7)) (md a c x1))/\a.length-x7<a.length-x3/\(a.length:Int)=(a.length:Int)/\(a.length:Int)=(a.length:Int)/\(x1:Int)=(x1:Int)/\(x1:Int)=(x1:Int)/\(a.length:Int)=(a.length:Int)/\(x3:Int)+(1:Int)=(x7:Int)/\a=a/\c=c/\cC a=cC a)) (af ((x1:Int)+(1:Int))/\∃x8:Nat,(x8<=a.length/\eW a c=dU a.length (kW a c) (a.length-x8))/\a.length-x8<a.length-x1/\(a.length:Int)=(a.length:Int)/\(a.length:Int)=(a.length:Int)/\(x1:Int)+(1:Int)=(x8:Int)/\a=a/\c=c/\cC a=cC a)) (true=Option.isNone (eW a c)/\True),by kernel_rfl,?_⟩
 simp only[nH,md,sb,aJ]at ξ⊢;obtain⟨n1,n2,hl,ha,hc,hb⟩:=SY ξ;have h1:=kV ξ.1
 have hbl:=Lw a
 refine⟨h1,⟨0,⟨by omega,rfl⟩,rfl⟩,fun i ⟨hi,hx⟩=>⟨fun h=>⟨⟨0,⟨by omega,by omega,?_⟩,rfl⟩,fun j ⟨hj,_,hy⟩=>⟨fun h2=>⟨⟨0,⟨by omega,by omega,?_⟩,rfl⟩,fun k ⟨hk,_,hz⟩=>⟨fun h3=>?_,fun h3=>?_⟩⟩,fun h2=>?_⟩⟩,fun h=>?_⟩⟩
 ·rw[hx,ub _ _ i (by omega)];rfl
 ·rw[hy,ub _ _ j (by omega)];rfl
 ·have A:=ha j (by omega)
  have A2:=A.2 k (by omega)
  have C:=hc i (by omega)
  have C1:=C.2 j (by omega)
  have C2:=C.2 k (by omega)
  have B:=hb i (by omega)
  have R1:=ha ((c.getD i []).getD j 0).toNat (by omega)
  have V:=R1.2 (bk a i).toNat (by omega)
  have R2:=ha ((a.getD ((c.getD i []).getD j 0).toNat []).getD (bk a i).toNat 0).toNat (by omega)
  rw[Lx a i (by omega)]
  refine⟨by omega,by omega,by omega,by omega,by omega,by omega,by omega,by omega,by omega,by omega,by omega,by omega,by omega,fun h4=>⟨?_,by omega⟩,fun h4=>⟨by omega,k+1,⟨by omega,by omega,?_⟩,by omega,by omega⟩⟩
  ·rw[hz,ub _ _ k (by omega),show nX a c i j k=some [(i:Int),(j:Int),(k:Int)] from AB h4];rfl
  ·rw[hz,ub _ _ k (by omega),show nX a c i j k=none from AA h4];rfl
 ·refine⟨by omega,j+1,⟨by omega,by omega,?_⟩,by omega,by omega⟩
  rw[hz,show a.length-k=0 by omega];rfl
 ·refine⟨by omega,i+1,⟨by omega,?_⟩,by omega,by omega⟩
  rw[hy,show a.length-j=0 by omega];rfl
 ·rw[hx,show a.length-i=0 by omega];rfl
def yD:List AD->Option Post
 | [.agg [.rows .i64 a,.rows .i64 c]]=>some ⟨aS a/\aS c,.c (.bool (aC a&&aC c&&decide (a.length=c.length))),[]⟩
 |_=>none
theorem S6:Fits Tryz.prog 79 ⟨[],yD⟩:=by
 refine ffv (Γ:=ah [(98,⟨[],tC⟩)]) (aw LM aI) Tryz.func79 fun ds p h ξ=>?_
 unfold yD at h;split at h<;>cases h
 rename_i a c
 refine⟨aj,ar,(aS a/\True)/\ab (aC a) ((aS c/\True)/\ab (aC c) (((a.length:Int) == (c.length:Int))=(aC a&&aC c&&decide (a.length=c.length))/\True) (false=(aC a&&aC c&&decide (a.length=c.length))/\True)) (false=(aC a&&aC c&&decide (a.length=c.length))/\True),by kernel_rfl,?_⟩
 simp only[aJ]at ξ⊢;obtain⟨r1,r2⟩:=ξ;refine⟨r1,fun h=>⟨r2,fun h2=>?_,fun h2=>by simp[h,h2]⟩,fun h=>by simp[h]⟩
 rw[h,h2,A9,A9,Cs,beq_iff_eq,decide_eq_true_iff];omega
def se:List AD->Option Post
 | [.agg [.rows .i64 a,.rows .i64 c]]=>some ⟨aS a/\aS c,.c (.bool (gx a c)),[]⟩
 |_=>none
theorem JV:Fits Tryz.prog 36 ⟨[],se⟩:=by
 refine ffv (Γ:=ah [(79,⟨[],yD⟩),(80,⟨[],yB⟩)]) (aw S6 (aw S3 aI)) Tryz.func36 fun ds p h ξ=>?_
 unfold se at h;split at h<;>cases h
 rename_i a c
 refine⟨aj,ar,((aS a/\aS c)/\True)/\ab (aC a&&aC c&&decide (a.length=c.length)) ((yA a c/\True)/\Option.isNone (eW a c)=gx a c/\True) (false=gx a c/\True),by kernel_rfl,?_⟩
 simp only[aJ]at ξ⊢;refine⟨ξ,fun h=>?_,fun h=>by rw[gx,h,DO]⟩
 have h2:=h
 simp only[AL,Ab]at h2;exact⟨⟨h2.1.1,h2.1.2,h2.2⟩,by rw[gx,h,A9]⟩
def d4(t A:D2)(K:D1):D1×Bool :=
 match da t A K with
 |none=>([],false)
 |some o=>(o,true)
theorem JW{t A:D2}{o:D1}{x y:Nat}(h:dz t A o x y=none):∀k,dz t A o x (y+k)=none
 |0=>h
 |k+1=>by rw[<-BX,dz,JW h k];rfl
theorem JX{t A:D2}{o:D1}{x:Nat}(h:eu t A o x=none):∀k,eu t A o (x+k)=none
 |0=>h
 |k+1=>by rw[<-BX,eu,JX h k];rfl
theorem S9{t A:D2}{K o c e:D1}{fu i j:Nat}(hr:da t A K=eV t A (fu+1) o)(hx:eu t A o i=some c)(hy:dz t A c i j=some e)(hi:i<t.length)(hj:j<t.length)(h:fI t A e i j=none):d4 t A K=([],false):=by
 have h1:dz t A c i (j+1)=none:=by rw[dz,hy];exact h
 have h2:=JW h1 (t.length-(j+1))
 rw[show j+1+(t.length-(j+1))=t.length by omega]at h2
 have h3:eu t A o (i+1)=none:=by rw[eu,hx];exact h2
 have h4:=JX h3 (t.length-(i+1))
 rw[show i+1+(t.length-(i+1))=t.length by omega]at h4
 rw[d4,hr,eV,h4]
def yG:List AD->Option Post
 | [.c (.rows .i64 t),.c (.rows .i64 A),.c (.ints .i64 K)]=>some ⟨t.length<=12/\aA t.length t/\AuOk t.length A/\A.length<=1000000/\KOk t.length A.length K,.tup [.inl (.ints 2 .i64 (d4 t A K).1),.inl (.bool (d4 t A K).2)],[]⟩
 |_=>none
def JY(t:D2)(A:D2)(K:D1):Nat->Option Ann
 |0=>some (Ann.mk ((Nat)×(D1)×(Bool)) (fun x=>match x with|(fu,o,g)=>⟨[(0,G' t),(1,G' A),(8,J' 8),(9,.c (.bool g))],[(8,O' o)]⟩) (fun x=>match x with|(fu,o,g)=>KOk t.length A.length o/\(g=true->az o<fu/\da t A K=eV t A fu o)/\(g=false->da t A K=some o)) (fun x=>match x with|(fu,o,g)=>2*fu+(if g=true then 1 else 0)) (fun x=>match x with|(fu,o,g)=>fun b_=>match b_ with|2=>some (Ann.mk ((Nat)×(D1)) (fun x=>match x with|(i,c)=>⟨[(0,G' t),(1,G' A),(8,J' 8),(9,.c (.bool (decide (az c<az o)))),(10,A' i)],[(8,O' c)]⟩) (fun x=>match x with|(i,c)=>i<=t.length/\g=true/\KOk t.length A.length c/\eu t A o i=some c/\az c<=az o) (fun x=>match x with|(i,c)=>t.length-i) (fun x=>match x with|(i,c)=>fun b_=>match b_ with|4=>some (Ann.mk ((Nat)×(D1)) (fun x=>match x with|(j,e)=>⟨[(0,G' t),(1,G' A),(8,J' 8),(9,.c (.bool (decide (az e<az o)))),(10,A' i),(11,A' j)],[(8,O' e)]⟩) (fun x=>match x with|(j,e)=>i<t.length/\j<=t.length/\KOk t.length A.length e/\dz t A c i j=some e/\az e<=az c) (fun x=>match x with|(j,e)=>t.length-j) (fun _=>ar))|_=>none))|_=>none))
 |_=>none
def me(t:D2)(A:D2)(x0:Nat×D1)(x1:Nat×D1):=((List.getD t (↑x0.1:Int).toNat []).getD (((List.getD A ((List.getD x1.2 (↑x0.1:Int).toNat (0:Int)).toNat) []).getD (↑x1.1:Int).toNat (0:Int)).toNat) (0:Int))
theorem Tc:Fits Tryz.prog 190 ⟨[],yG⟩:=by
 refine ffv (Γ:=ah [(144,⟨[],ot⟩),(189,⟨[],sR⟩),(232,⟨[],zG⟩)]) (aw ur (aw KT (aw Uk aI))) Tryz.func190 fun ds p h ξ=>?_
 unfold yG at h;split at h<;>cases h
 rename_i t A K
 refine⟨aj,JY t A K,(am K.length/\True)/\(∃x0:Nat×D1×Bool,(KOk t.length A.length x0.2.1/\(x0.2.2=true->az x0.2.1<x0.1/\da t A K=eV t A x0.1 x0.2.1)/\(x0.2.2=false->da t A K=Option.some x0.2.1))/\t=t/\A=A/\true=x0.2.2/\K=x0.2.1)/\∀x1:Nat×D1×Bool,KOk t.length A.length x1.2.1/\(x1.2.2=true->az x1.2.1<x1.1/\da t A K=eV t A x1.1 x1.2.1)/\(x1.2.2=false->da t A K=Option.some x1.2.1)->ab x1.2.2 ((∃x2:Nat×D1,(x2.1<=t.length/\x1.2.2=true/\KOk t.length A.length x2.2/\eu t A x1.2.1 x2.1=Option.some x2.2/\az x2.2<=az x1.2.1)/\t=t/\A=A/\false=decide (az x2.2<az x1.2.1)/\(0:Int)=(↑x2.1:Int)/\x1.2.1=x2.2)/\∀x3:Nat×D1,x3.1<=t.length/\x1.2.2=true/\KOk t.length A.length x3.2/\eu t A x1.2.1 x3.1=Option.some x3.2/\az x3.2<=az x1.2.1->ab (decide ((↑x3.1:Int)<(t.length:Int))) ((∃x4:Nat×D1,(x3.1<t.length/\x4.1<=t.length/\KOk t.length A.length x4.2/\dz t A x3.2 x3.1 x4.1=Option.some x4.2/\az x4.2<=az x3.2)/\t=t/\A=A/\decide (az x3.2<az x1.2.1)=decide (az x4.2<az x1.2.1)/\(↑x3.1:Int)=(↑x3.1:Int)/\(0:Int)=(↑x4.1:Int)/\x3.2=x4.2)/\∀x5:Nat×D1,x3.1<t.length/\x5.1<=t.length/\KOk t.length A.length x5.2/\dz t A x3.2 x3.1 x5.1=Option.some x5.2/\az x5.2<=az x3.2->ab (decide ((↑x5.1:Int)<(t.length:Int))) (ac (↑x3.1:Int) x5.2.length/\ab (decide (x5.2.getD (↑x3.1:Int).toNat (0:Int)<(0:Int))) (af ((↑x5.1:Int)+(1:Int))/\∃x6:Nat×D1,(x3.1<t.length/\x6.1<=t.length/\KOk t.length A.length x6.2/\dz t A x3.2 x3.1 x6.1=Option.some x6.2/\az x6.2<=az x3.2)/\t.length-x6.1<t.length-x5.1/\t=t/\A=A/\decide (az x5.2<az x1.2.1)=decide (az x6.2<az x1.2.1)/\(↑x3.1:Int)=(↑x3.1:Int)/\(↑x5.1:Int)+(1:Int)=(↑x6.1:Int)/\x5.2=x6.2) (ac (↑x5.1:Int) x5.2.length/\ab (decide (x5.2.getD (↑x5.1:Int).toNat (0:Int)<(0:Int))) (af ((↑x5.1:Int)+(1:Int))/\∃x7:Nat×D1,(x3.1<t.length/\x7.1<=t.length/\KOk t.length A.length x7.2/\dz t A x3.2 x3.1 x7.1=Option.some x7.2/\az x7.2<=az x3.2)/\t.length-x7.1<t.length-x5.1/\t=t/\A=A/\decide (az x5.2<az x1.2.1)=decide (az x7.2<az x1.2.1)/\(↑x3.1:Int)=(↑x3.1:Int)/\(↑x5.1:Int)+(1:Int)=(↑x7.1:Int)/\x5.2=x7.2) (ac (↑x3.1:Int) t.length/\ac (↑x3.1:Int) x5.2.length/\ac (x5.2.getD (↑x3.1:Int).toNat (0:Int)) A.length/\ac (↑x5.1:Int) ((A.getD ((x5.2.getD (↑x3.1:Int).toNat (0:Int)).toNat) []).length)/\ac ((List.getD A ((List.getD x5.2 (↑x3.1:Int).toNat (0:Int)).toNat) []).getD (↑x5.1:Int).toNat (0:Int)) ((t.getD (↑x3.1:Int).toNat []).length)/\ac (↑x5.1:Int) x5.2.length/\ac (x5.2.getD (↑x5.1:Int).toNat (0:Int)) A.length/\ac (↑x3.1:Int) x5.2.length/\ac (x5.2.getD (↑x3.1:Int).toNat (0:Int)) A.length/\((am ((A.getD ((x5.2.getD (↑x5.1:Int).toNat (0:Int)).toNat) []).length)/\gv ((A.getD ((x5.2.getD (↑x3.1:Int).toNat (0:Int)).toNat) []).length) (A.getD ((x5.2.getD (↑x5.1:Int).toNat (0:Int)).toNat) []))/\True)/\(aS A/\True)/\ac (me t A x3 x5) x5.2.length/\ab (decide (x5.2.getD (((List.getD t (↑x3.1:Int).toNat []).getD (((List.getD A ((List.getD x5.2 (↑x3.1:Int).toNat (0:Int)).toNat) []).getD (↑x5.1:Int).toNat (0:Int)).toNat) (0:Int)).toNat) (0:Int)<(0:Int))) (ac (me t A x3 x5) x5.2.length/\ac (me t A x3 x5) ((List.set x5.2 (me t A x3 x5).toNat (ip A (aE (A.getD ((x5.2.getD (↑x5.1:Int).toNat (0:Int)).toNat) []) (A.getD ((x5.2.getD (↑x3.1:Int).toNat (0:Int)).toNat) [])))).length)/\ab ((List.set x5.2 ((List.getD (List.getD t (↑x3.1:Int).toNat []) ((List.getD (List.getD A ((List.getD x5.2 (↑x3.1:Int).toNat (0:Int)).toNat) []) (↑x5.1:Int).toNat (0:Int)).toNat) (0:Int)).toNat) (ip A (aE (List.getD A ((List.getD x5.2 (↑x5.1:Int).toNat (0:Int)).toNat) []) (List.getD A ((List.getD x5.2 (↑x3.1:Int).toNat (0:Int)).toNat) [])))).getD (((List.getD t (↑x3.1:Int).toNat []).getD (((List.getD A ((List.getD x5.2 (↑x3.1:Int).toNat (0:Int)).toNat) []).getD (↑x5.1:Int).toNat (0:Int)).toNat) (0:Int)).toNat) (0:Int) != ip A (aE (A.getD ((x5.2.getD (↑x5.1:Int).toNat (0:Int)).toNat) []) (A.getD ((x5.2.getD (↑x3.1:Int).toNat (0:Int)).toNat) []))) (([]=(d4 t A K).1/\false=(d4 t A K).2/\True)/\True) (af ((↑x5.1:Int)+(1:Int))/\∃x8:Nat×D1,(x3.1<t.length/\x8.1<=t.length/\KOk t.length A.length x8.2/\dz t A x3.2 x3.1 x8.1=Option.some x8.2/\az x8.2<=az x3.2)/\t.length-x8.1<t.length-x5.1/\t=t/\A=A/\true=decide (az x8.2<az x1.2.1)/\(↑x3.1:Int)=(↑x3.1:Int)/\(↑x5.1:Int)+(1:Int)=(↑x8.1:Int)/\List.set x5.2 (me t A x3 x5).toNat (ip A (aE (A.getD ((x5.2.getD (↑x5.1:Int).toNat (0:Int)).toNat) []) (A.getD ((x5.2.getD (↑x3.1:Int).toNat (0:Int)).toNat) [])))=x8.2)) (ac (me t A x3 x5) x5.2.length/\ab (x5.2.getD (((List.getD t (↑x3.1:Int).toNat []).getD (((List.getD A ((List.getD x5.2 (↑x3.1:Int).toNat (0:Int)).toNat) []).getD (↑x5.1:Int).toNat (0:Int)).toNat) (0:Int)).toNat) (0:Int) != ip A (aE (A.getD ((x5.2.getD (↑x5.1:Int).toNat (0:Int)).toNat) []) (A.getD ((x5.2.getD (↑x3.1:Int).toNat (0:Int)).toNat) []))) (([]=(d4 t A K).1/\false=(d4 t A K).2/\True)/\True) (af ((↑x5.1:Int)+(1:Int))/\∃x9:Nat×D1,(x3.1<t.length/\x9.1<=t.length/\KOk t.length A.length x9.2/\dz t A x3.2 x3.1 x9.1=Option.some x9.2/\az x9.2<=az x3.2)/\t.length-x9.1<t.length-x5.1/\t=t/\A=A/\decide (az x5.2<az x1.2.1)=decide (az x9.2<az x1.2.1)/\(↑x3.1:Int)=(↑x3.1:Int)/\(↑x5.1:Int)+(1:Int)=(↑x9.1:Int)/\x5.2=x9.2))))) (af ((↑x3.1:Int)+(1:Int))/\∃x10:Nat×D1,(x10.1<=t.length/\x1.2.2=true/\KOk t.length A.length x10.2/\eu t A x1.2.1 x10.1=Option.some x10.2/\az x10.2<=az x1.2.1)/\t.length-x10.1<t.length-x3.1/\t=t/\A=A/\decide (az x5.2<az x1.2.1)=decide (az x10.2<az x1.2.1)/\(↑x3.1:Int)+(1:Int)=(↑x10.1:Int)/\x5.2=x10.2)) (∃x11:Nat×D1×Bool,(KOk t.length A.length x11.2.1/\(x11.2.2=true->az x11.2.1<x11.1/\da t A K=eV t A x11.1 x11.2.1)/\(x11.2.2=false->da t A K=Option.some x11.2.1))/\(((2:Nat)*x11.1+if x11.2.2=true then(1:Nat)else(0:Nat))<(2:Nat)*x1.1+if x1.2.2=true then(1:Nat)else(0:Nat))/\t=t/\A=A/\decide (az x3.2<az x1.2.1)=x11.2.2/\x3.2=x11.2.1)) ((x1.2.1=(d4 t A K).1/\true=(d4 t A K).2/\True)/\True),by kernel_rfl,?_⟩
 simp only[me,aJ]at ξ⊢;obtain⟨h1,h2,h3,h4,h5⟩:=ξ;have kl:=h5.len
 have ng:=zx K
 refine⟨by omega,⟨⟨t.length+1,K,true⟩,⟨h5,fun _=>⟨by dsimp only;omega,rfl⟩,fun h=>by cases h⟩,rfl,rfl⟩,fun⟨fu,o,g⟩ ⟨o1,o2,o3⟩=>?_⟩
 dsimp only at o1 o2 o3⊢;refine⟨fun hg=>?_,fun hg=>?_⟩
 ·subst hg
  obtain⟨o2,o4⟩:=o2 rfl;obtain⟨fu,rfl⟩:∃m,fu=m+1:=⟨fu-1,by omega⟩
  refine⟨⟨⟨0,o⟩,⟨AQ _,rfl,o1,rfl,AE _⟩,(Ae (Nat.lt_irrefl _)).symm,rfl,rfl⟩,fun⟨i,c⟩ ⟨c1,_,c2,c3,c4⟩=>?_⟩
  dsimp only at c1 c2 c3 c4⊢;refine⟨fun hi=>⟨⟨⟨0,c⟩,⟨by omega,AQ _,c2,rfl,AE _⟩,rfl,rfl,rfl⟩,fun⟨j,e⟩ ⟨_,e1,e2,e3,e4⟩=>?_⟩,fun hi=>?_⟩
  ·dsimp only at e1 e2 e3 e4⊢
   refine⟨fun hj=>?_,fun hj=>?_⟩
   ·have el:=e2.len
    have ri:=e2.rng i (by omega)
    have rj:=e2.rng j (by omega)
    have same:fI t A e i j=some e->dz t A c i (j+1)=some e:=fun h=>by rw[dz,e3];exact h
    refine⟨by omega,fun q=>⟨by omega,⟨j+1,e⟩,⟨by omega,by dsimp only;omega,e2,same (by unfold fI;rw[if_pos (.inl q)]),e4⟩,by dsimp only;omega,rfl,by dsimp only;omega,rfl⟩,fun q=>⟨by omega,fun q2=>⟨by omega,⟨j+1,e⟩,⟨by omega,by dsimp only;omega,e2,same (by unfold fI;rw[if_pos (.inr q2)]),e4⟩,by dsimp only;omega,rfl,by dsimp only;omega,rfl⟩,fun q2=>?_⟩⟩
    have W:=nQ h3 e2 (x:=i) (y:=j) (by omega) (by omega) (by omega) (by omega)
    have Z:=mi h2 h3 e2 (x:=i) (y:=j) (by omega) (by omega) (by omega)
    have Lt:(t.getD i []).length=t.length:=(h2.2 i (by omega)).1
    have La:=h3.len (e.getD i 0).toNat (by omega)
    have Lb:=h3.len (e.getD j 0).toNat (by omega)
    have hw:ip A (aE (A.getD (e.getD j 0).toNat []) (A.getD (e.getD i 0).toNat []))=dN A e i j:=by rw[ip,AA W.1];rfl
    have hz:((t.getD i []).getD ((A.getD (e.getD i 0).toNat []).getD j 0).toNat 0).toNat=bP t A e i j:=rfl
    have hq:gv (A.getD (e.getD i 0).toNat []).length (A.getD (e.getD j 0).toNat []):=fun x hx=>by
     have:=h3.rng (e.getD j 0).toNat x (by omega) (by omega)
     rw[La];exact this
    have hA:aS A:=⟨by omega,fun r hr=>by
     obtain⟨x,hx,rfl⟩:=Aw hr;have:=h3.len x hx
     rw[bv A [] x hx]at this;omega⟩
    have Z1:0<=(A.getD (e.getD i 0).toNat []).getD j 0/\(A.getD (e.getD i 0).toNat []).getD j 0<(t.length:Int):=Z.1
    have Z2:0<=(t.getD i []).getD ((A.getD (e.getD i 0).toNat []).getD j 0).toNat 0/\(t.getD i []).getD ((A.getD (e.getD i 0).toNat []).getD j 0).toNat 0<(t.length:Int):=Z.2.1
    rw[hw,hz];have SS:fI t A e i j=if e.getD (bP t A e i j) 0<0 then some (e.set (bP t A e i j) (dN A e i j))else if e.getD (bP t A e i j) 0=dN A e i j then some e else none:=by
     conv=>lhs;unfold fI
     rw[AB (by omega)]
    have gs:e.getD (bP t A e i j) 0<0->(e.set (bP t A e i j) (dN A e i j)).getD (bP t A e i j) 0=dN A e i j:=fun _=>by
     rw[iM _ _ _ _ (by rw[el];exact Z.2.2),AA rfl]
    refine⟨by omega,by omega,by omega,by omega,by omega,by omega,by omega,by omega,by omega,⟨by omega,hq⟩,hA,by omega,fun z=>⟨by omega,by omega,fun y=>absurd (gs z) y,fun y=>?_⟩,fun z=>⟨by omega,fun y=>?_,fun y=>?_⟩⟩
    ·have N:=pF (K:=e) (z:=bP t A e i j) (w:=dN A e i j) (by rw[el];exact Z.2.2) z W.2.1
     refine⟨by omega,⟨j+1,e.set (bP t A e i j) (dN A e i j)⟩,⟨by omega,by dsimp only;omega,e2.set _ ⟨by omega,W.2.2⟩,?_,by dsimp only;omega⟩,by dsimp only;omega,?_,by dsimp only;omega,rfl⟩
     ·dsimp only;rw[dz,e3];show fI t A e i j=_;rw[SS,if_pos z]
     ·exact(decide_eq_true (by dsimp only;omega)).symm
    ·rw[S9 o4 c3 e3 (by omega) (by omega) (by rw[SS,AB z,AB y])];exact⟨rfl,rfl⟩
    ·refine⟨by omega,⟨j+1,e⟩,⟨by omega,by dsimp only;omega,e2,same (by rw[SS,if_neg z,if_pos y]),e4⟩,by dsimp only;omega,rfl,by dsimp only;omega,rfl⟩
   ·refine⟨by omega,⟨i+1,e⟩,⟨by dsimp only;omega,rfl,e2,?_,by dsimp only;omega⟩,by dsimp only;omega,rfl,by dsimp only;omega,rfl⟩
    dsimp only;rw[eu,c3]
    show dz t A c i t.length=_
    rw[show t.length=j by omega];exact e3
  ·have ei:i=t.length:=by omega
   rw[ei]at c3;by_cases q:az c<az o
   ·refine⟨⟨fu,c,true⟩,⟨c2,fun _=>⟨by dsimp only;omega,?_⟩,fun h=>by cases h⟩,?_,decide_eq_true q,rfl⟩
    ·dsimp only;rw[o4,eV,c3];simp only;rw[if_pos q]
    ·dsimp only;first|omega|(simp;done)|(simp;omega)
   ·refine⟨⟨fu,c,false⟩,⟨c2,fun h=>(by cases h),fun _=>?_⟩,?_,Ae q,rfl⟩
    ·dsimp only;rw[o4,eV,c3];simp only;rw[if_neg q]
    ·dsimp only;first|omega|(simp;done)|(simp;omega)
 ·rw[d4,o3 hg];exact⟨rfl,rfl⟩
end Go.Sx
