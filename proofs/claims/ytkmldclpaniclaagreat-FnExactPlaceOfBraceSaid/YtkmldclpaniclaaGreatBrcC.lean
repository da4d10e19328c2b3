/- BrcC -/
import Derived.Test.YtkmldclpaniclaaGreatGrpC
open Go Go.Proofs
namespace Go.Sx
set_option linter.unusedSimpArgs false
set_option linter.unusedVariables false
def ou(a c:V8):Prop:=ba a=true/\ba c=true/\a.length=c.length
theorem Ei{a c:V8}(h:ou a c):1<=a.length/\a.length<=12/\c.length=a.length /\
  (∀x,x<a.length->(a.getD x []).length=a.length/\∀y,y<a.length->0<=(a.getD x []).getD y 0/\(a.getD x []).getD y 0<=(a.length:Int)-1) /\
  (∀x,x<a.length->(c.getD x []).length=a.length/\∀y,y<a.length->0<=(c.getD x []).getD y 0/\(c.getD x []).getD y 0<=(a.length:Int)-1) /\
  (∀x,x<a.length->0<=bk a x/\bk a x<=(a.length:Int)-1):=by
 obtain⟨h1,h2,h3⟩:=h;obtain⟨n1,n2,ha⟩:=gu (ju h1);obtain⟨_,_,hc⟩:=gu (ju h2);rw[<-h3]at hc;exact⟨n1,n2,h3.symm,ha,hc,fun x hx=>OJ h1 hx⟩
def qm(a:V8)(c:V8):Post:=⟨ou a c,.c (.ints 2 .i64 ((co a c).getD [])),[]⟩
def vY:List AD->Option Post
 | [.agg [.rows .i64 a,.rows .i64 c]]=>some (qm a c)
 |_=>none
def Ej(a:V8)(c:V8):Nat->Option Ann
 |0=>some (Ann.mk ((Nat)) (fun i=>⟨[(1,.c (.ptr 1 0)),(3,.c (.int .i64 ((a.length:Int)))),(4,.c (.int .i64 ((i:Int))))],[(1,some (.box [.ro (.rows .i64 a),.ro (.rows .i64 c)]))]⟩) (fun i=>i<=a.length/\co a c=b9 a.length (fF a c) (a.length-i)) (fun i=>a.length-i) (fun i=>fun b_=>match b_ with|2=>some (Ann.mk ((Nat)) (fun j=>⟨[(1,.c (.ptr 1 0)),(3,.c (.int .i64 ((a.length:Int)))),(4,.c (.int .i64 ((i:Int)))),(5,.c (.int .i64 (bk a i))),(6,.c (.int .i64 ((j:Int))))],[(1,some (.box [.ro (.rows .i64 a),.ro (.rows .i64 c)]))]⟩) (fun j=>j<=a.length/\i<a.length/\co a c=(b9 a.length (gk a c i) (a.length-j)).or (b9 a.length (fF a c) (a.length-(i+1)))) (fun j=>a.length-j) (fun j=>fun b_=>match b_ with|4=>some (Ann.mk ((Nat)) (fun k=>⟨[(1,.c (.ptr 1 0)),(3,.c (.int .i64 ((a.length:Int)))),(4,.c (.int .i64 ((i:Int)))),(5,.c (.int .i64 (bk a i))),(6,.c (.int .i64 ((j:Int)))),(7,.c (.int .i64 ((k:Int))))],[(1,some (.box [.ro (.rows .i64 a),.ro (.rows .i64 c)]))]⟩) (fun k=>k<=a.length/\j<a.length/\co a c=((b9 a.length (iY a c i j) (a.length-k)).or (b9 a.length (gk a c i) (a.length-(j+1)))).or (b9 a.length (fF a c) (a.length-(i+1)))) (fun k=>a.length-k) (fun _=>am))|_=>none))|_=>none))
 |_=>none
def Ek:List (Nat×Ctr):=[(156,⟨[],xQ⟩)]
def mI(c:V8)(x0:Nat)(x1:Nat):=((List.getD c (↑x0:Int).toNat []).getD (↑x1:Int).toNat (0:Int))
def kY(a:V8)(c:V8)(x0:Nat):=(b9 a.length (fF a c) (a.length-(x0+(1:Nat))))
def qn(a:V8)(c:V8)(x0:Nat)(x1:Nat)(x2:Nat):=(Option.or (b9 a.length (iY a c x0 x1) (a.length-x2)) (b9 a.length (gk a c x0) (a.length-(x1+(1:Nat)))))
def vZ(a:V8)(c:V8):Prop :=
 ((∃x0:Nat,(x0<=a.length/\co a c=b9 a.length (fF a c) (a.length-x0))/\(a.length:Int)=(a.length:Int)/\(0:Int)=(x0:Int)/\a=a/\c=c)/\(∀x1:Nat,(x1<=a.length/\co a c=b9 a.length (fF a c) (a.length-x1)->(ae (decide ((x1:Int)<(a.length:Int))) (((b6 a=true/\(0:Int)<=(x1:Int)/\(x1:Int)<=(a.length:Int)-(1:Int))/\True)/\((∃x2:Nat,(x2<=a.length/\x1<a.length/\co a c=Option.or (b9 a.length (gk a c x1) (a.length-x2)) (kY a c x1))/\(a.length:Int)=(a.length:Int)/\(x1:Int)=(x1:Int)/\bk a (x1:Int).toNat=bk a x1/\(0:Int)=(x2:Int)/\a=a/\c=c)/\(∀x3:Nat,(x3<=a.length/\x1<a.length/\co a c=Option.or (b9 a.length (gk a c x1) (a.length-x3)) (kY a c x1)->(ae (decide ((x3:Int)<(a.length:Int))) ((∃x4:Nat,(x4<=a.length/\x3<a.length/\co a c=Option.or (qn a c x1 x3 x4) (kY a c x1))/\(a.length:Int)=(a.length:Int)/\(x1:Int)=(x1:Int)/\bk a x1=bk a x1/\(x3:Int)=(x3:Int)/\(0:Int)=(x4:Int)/\a=a/\c=c)/\(∀x5:Nat,(x5<=a.length/\x3<a.length/\co a c=Option.or (qn a c x1 x3 x5) (kY a c x1)->(ae (decide ((x5:Int)<(a.length:Int))) (aa (x1:Int) c.length/\(aa (x3:Int) a.length/\((aa (x5:Int) ((a.getD (x3:Int).toNat []).length)) /\
 ((aa ((List.getD a (x3:Int).toNat []).getD (x5:Int).toNat (0:Int)) ((c.getD (x1:Int).toNat []).length))/\((aa (x1:Int) c.length)/\((aa (x3:Int) ((c.getD (x1:Int).toNat []).length))/\((aa (mI c x1 x3) a.length)/\((aa (bk a x1) ((a.getD (mI c x1 x3).toNat []).length))/\((aa ((List.getD a (mI c x1 x3).toNat []).getD (bk a x1).toNat (0:Int)) a.length)/\((aa (x1:Int) c.length)/\((aa (x5:Int) ((c.getD (x1:Int).toNat []).length))/\((aa (mI c x1 x5) ((a.getD (((List.getD a (mI c x1 x3).toNat []).getD (bk a x1).toNat (0:Int)).toNat) []).length))/\(ae ((List.getD c (x1:Int).toNat []).getD (((List.getD a (x3:Int).toNat []).getD (x5:Int).toNat (0:Int)).toNat) (0:Int) != (List.getD a ((List.getD (List.getD a ((List.getD (List.getD c (x1:Int).toNat []) (x3:Int).toNat (0:Int)).toNat) []) (bk a x1).toNat (0:Int)).toNat) []).getD (((List.getD c (x1:Int).toNat []).getD (x5:Int).toNat (0:Int)).toNat) (0:Int)) (([(x1:Int),(x3:Int),(x5:Int)]=Option.getD (co a c) [])/\True) ((ac ((x5:Int)+(1:Int)))/\(∃x6:Nat,(((x6<=a.length)/\((x3<a.length)/\(co a c=Option.or (qn a c x1 x3 x6) (kY a c x1))))/\((a.length-x6<a.length-x5)/\(((a.length:Int)=(a.length:Int))/\(((x1:Int)=(x1:Int))/\((bk a x1=bk a x1)/\(((x3:Int)=(x3:Int))/\(((x5:Int)+(1:Int)=(x6:Int))/\((a=a)/\(c=c)))))))))))))))))))))))) ((ac ((x3:Int)+(1:Int))) /\
 (∃x7:Nat,(((x7<=a.length)/\((x1<a.length)/\(co a c=Option.or (b9 a.length (gk a c x1) (a.length-x7)) (kY a c x1))))/\((a.length-x7<a.length-x3)/\(((a.length:Int)=(a.length:Int))/\(((x1:Int)=(x1:Int))/\((bk a x1=bk a x1)/\(((x3:Int)+(1:Int)=(x7:Int))/\((a=a)/\(c=c)))))))))))))) ((ac ((x1:Int)+(1:Int)))/\(∃x8:Nat,(((x8<=a.length)/\(co a c=b9 a.length (fF a c) (a.length-x8)))/\((a.length-x8<a.length-x1)/\(((a.length:Int)=(a.length:Int))/\(((x1:Int)+(1:Int)=(x8:Int))/\((a=a)/\(c=c))))))))))))) (([]=Option.getD (co a c) [])/\True)))))
theorem Mq(a:V8)(c:V8):aJ Tryz.prog (ai Ek) ak (Ej a c) Tryz.f111 (aE Tryz.f111) [] [.agg [.rows .i64 a,.rows .i64 c]] (qm a c)=vZ a c:=by kernel_rfl
theorem Mr(a:V8)(c:V8)(Yh:(qm a c).pre):vZ a c:=by
 simp only[qm,vZ,mI,kY,qn,aG,u1,u2,u3,u4,u5,u6,u7,u8,u9,v1,v2,v3,v4,v5,v6,v7,v8,v9,w1,w2,w3,w4,aH,aa,ac,af,ar]at Yh⊢;obtain⟨n1,n2,hl,ha,hc,hb⟩:=Ei Yh;have h1:=ju Yh.1
 refine⟨⟨0,⟨by omega,rfl⟩,rfl⟩,fun i ⟨hi,hx⟩=>⟨fun h=>⟨⟨h1,by omega,by omega⟩,⟨0,⟨by omega,by omega,?_⟩,rfl⟩,fun j ⟨hj,_,hy⟩=>⟨fun h2=>⟨⟨0,⟨by omega,by omega,?_⟩,rfl⟩,fun k ⟨hk,_,hz⟩=>⟨fun h3=>?_,fun h3=>?_⟩⟩,fun h2=>?_⟩⟩,fun h=>?_⟩⟩
 ·rw[hx,ko _ _ i (by omega)];rfl
 ·rw[hy,ko _ _ j (by omega)];rfl
 ·have A:=ha j (by omega)
  have A2:=A.2 k (by omega)
  have C:=hc i (by omega)
  have C1:=C.2 j (by omega)
  have C2:=C.2 k (by omega)
  have B:=hb i (by omega)
  have R1:=ha ((c.getD i []).getD j 0).toNat (by omega)
  have V:=R1.2 (bk a i).toNat (by omega)
  have R2:=ha ((a.getD ((c.getD i []).getD j 0).toNat []).getD (bk a i).toNat 0).toNat (by omega)
  refine⟨by omega,by omega,by omega,by omega,by omega,by omega,by omega,by omega,by omega,by omega,by omega,by omega,fun h4=>?_,fun h4=>⟨by omega,k+1,⟨by omega,by omega,?_⟩,by omega,by omega⟩⟩
  ·rw[hz,ko _ _ k (by omega),show iY a c i j k=some [(i:Int),(j:Int),(k:Int)] from if_neg h4];rfl
  ·rw[hz,ko _ _ k (by omega),show iY a c i j k=none from if_pos h4];rfl
 ·refine⟨by omega,j+1,⟨by omega,by omega,?_⟩,by omega,by omega⟩
  rw[hz,show a.length-k=0 by omega];rfl
 ·refine⟨by omega,i+1,⟨by omega,?_⟩,by omega,by omega⟩
  rw[hy,show a.length-j=0 by omega];rfl
 ·rw[hx,show a.length-i=0 by omega];rfl
theorem Ms:Fits Tryz.prog 111 ⟨[],vY⟩:=by
 refine aO (Γ:=ai Ek) (aw OX aF) Tryz.func111 fun ds p h hp=>?_
 unfold vY at h;split at h
 ·cases h
  exact⟨ak,Ej _ _ ,by rw[Mq];exact Mr _ _  hp⟩
 ·cases h
def qo(a:V8)(c:V8):Post:=⟨ou a c,.c (.nilq (co a c).isNone),[]⟩
def wa:List AD->Option Post
 | [.agg [.rows .i64 a,.rows .i64 c]]=>some (qo a c)
 |_=>none
def El(a:V8)(c:V8):Nat->Option Ann
 |0=>some (Ann.mk ((Nat)) (fun i=>⟨[(1,.c (.ptr 1 0)),(3,.c (.own 10)),(4,.c (.int .i64 ((a.length:Int)))),(14,.c (.int .i64 ((a.length:Int)))),(15,.c (.int .i64 ((i:Int))))],[(1,some (.box [.ro (.rows .i64 a),.ro (.rows .i64 c)])),(10,some (.ints 2 .i64 (cd a)))]⟩) (fun i=>i<=a.length/\co a c=b9 a.length (fF a c) (a.length-i)) (fun i=>a.length-i) (fun i=>fun b_=>match b_ with|2=>some (Ann.mk ((Nat)) (fun j=>⟨[(1,.c (.ptr 1 0)),(3,.c (.own 10)),(4,.c (.int .i64 ((a.length:Int)))),(14,.c (.int .i64 ((a.length:Int)))),(15,.c (.int .i64 ((i:Int)))),(5,.c (.int .i64 ((i:Int)))),(18,.c (.int .i64 ((a.length:Int)))),(19,.c (.int .i64 ((j:Int))))],[(1,some (.box [.ro (.rows .i64 a),.ro (.rows .i64 c)])),(10,some (.ints 2 .i64 (cd a)))]⟩) (fun j=>j<=a.length/\i<a.length/\co a c=(b9 a.length (gk a c i) (a.length-j)).or (b9 a.length (fF a c) (a.length-(i+1)))) (fun j=>a.length-j) (fun j=>fun b_=>match b_ with|4=>some (Ann.mk ((Nat)) (fun k=>⟨[(1,.c (.ptr 1 0)),(3,.c (.own 10)),(4,.c (.int .i64 ((a.length:Int)))),(14,.c (.int .i64 ((a.length:Int)))),(15,.c (.int .i64 ((i:Int)))),(5,.c (.int .i64 ((i:Int)))),(18,.c (.int .i64 ((a.length:Int)))),(19,.c (.int .i64 ((j:Int)))),(6,.c (.int .i64 ((j:Int)))),(22,.c (.int .i64 ((a.length:Int)))),(23,.c (.int .i64 ((k:Int))))],[(1,some (.box [.ro (.rows .i64 a),.ro (.rows .i64 c)])),(10,some (.ints 2 .i64 (cd a)))]⟩) (fun k=>k<=a.length/\j<a.length/\co a c=((b9 a.length (iY a c i j) (a.length-k)).or (b9 a.length (gk a c i) (a.length-(j+1)))).or (b9 a.length (fF a c) (a.length-(i+1)))) (fun k=>a.length-k) (fun _=>am))|_=>none))|_=>none))
 |_=>none
def Em:List (Nat×Ctr):=[(114,⟨[],xO⟩)]
def mJ(c:V8)(x0:Nat)(x1:Nat):=((List.getD c (↑x0:Int).toNat []).getD (↑x1:Int).toNat (0:Int))
def kZ(a:V8)(c:V8)(x0:Nat):=(b9 a.length (fF a c) (a.length-(x0+(1:Nat))))
def qp(a:V8)(c:V8)(x0:Nat)(x1:Nat)(x2:Nat):=(Option.or (b9 a.length (iY a c x0 x1) (a.length-x2)) (b9 a.length (gk a c x0) (a.length-(x1+(1:Nat)))))
def wb(a:V8)(c:V8):Prop :=
 ((b6 a=true/\True)/\((∃x0:Nat,(x0<=a.length/\co a c=b9 a.length (fF a c) (a.length-x0))/\(a.length:Int)=(a.length:Int)/\(a.length:Int)=(a.length:Int)/\(0:Int)=(x0:Int)/\a=a/\c=c/\cd a=cd a)/\(∀x1:Nat,(x1<=a.length/\co a c=b9 a.length (fF a c) (a.length-x1)->(ae (decide ((x1:Int)<(a.length:Int))) ((∃x2:Nat,(x2<=a.length/\x1<a.length/\co a c=Option.or (b9 a.length (gk a c x1) (a.length-x2)) (kZ a c x1))/\(a.length:Int)=(a.length:Int)/\(a.length:Int)=(a.length:Int)/\(x1:Int)=(x1:Int)/\(x1:Int)=(x1:Int)/\(a.length:Int)=(a.length:Int)/\(0:Int)=(x2:Int)/\a=a/\c=c/\cd a=cd a)/\(∀x3:Nat,(x3<=a.length/\x1<a.length/\co a c=Option.or (b9 a.length (gk a c x1) (a.length-x3)) (kZ a c x1)->(ae (decide ((x3:Int)<(a.length:Int))) ((∃x4:Nat,(x4<=a.length/\x3<a.length/\co a c=Option.or (qp a c x1 x3 x4) (kZ a c x1))/\(a.length:Int)=(a.length:Int)/\(a.length:Int)=(a.length:Int)/\(x1:Int)=(x1:Int)/\(x1:Int)=(x1:Int)/\(a.length:Int)=(a.length:Int)/\(x3:Int)=(x3:Int)/\(x3:Int)=(x3:Int)/\(a.length:Int)=(a.length:Int)/\(0:Int)=(x4:Int)/\a=a/\c=c/\cd a=cd a)/\(∀x5:Nat,((x5<=a.length/\((x3<a.length) /\
 (co a c=Option.or (qp a c x1 x3 x5) (kZ a c x1))))->(ae (decide ((x5:Int)<(a.length:Int))) ((aa (x1:Int) c.length)/\((aa (x3:Int) a.length)/\((aa (x5:Int) ((a.getD (x3:Int).toNat []).length))/\((aa ((List.getD a (x3:Int).toNat []).getD (x5:Int).toNat (0:Int)) ((c.getD (x1:Int).toNat []).length))/\((aa (x1:Int) c.length)/\((aa (x3:Int) ((c.getD (x1:Int).toNat []).length))/\((aa (mJ c x1 x3) a.length)/\((aa (x1:Int) (cd a).length)/\((aa ((cd a).getD (x1:Int).toNat (0:Int)) ((a.getD (mJ c x1 x3).toNat []).length))/\((aa ((List.getD a (mJ c x1 x3).toNat []).getD (((cd a).getD (x1:Int).toNat (0:Int)).toNat) (0:Int)) a.length)/\((aa (x1:Int) c.length)/\((aa (x5:Int) ((c.getD (x1:Int).toNat []).length))/\((aa (mJ c x1 x5) ((a.getD (((List.getD a (mJ c x1 x3).toNat []).getD (((cd a).getD (x1:Int).toNat (0:Int)).toNat) (0:Int)).toNat) []).length))/\(ae ((List.getD c (x1:Int).toNat []).getD (((List.getD a (x3:Int).toNat []).getD (x5:Int).toNat (0:Int)).toNat) (0:Int) != (List.getD a ((List.getD (List.getD a ((List.getD (List.getD c (x1:Int).toNat []) (x3:Int).toNat (0:Int)).toNat) []) ((List.getD (cd a) (x1:Int).toNat (0:Int)).toNat) (0:Int)).toNat) []).getD (((List.getD c (x1:Int).toNat []).getD (x5:Int).toNat (0:Int)).toNat) (0:Int)) (((false=Option.isNone (co a c)) /\
 ([(x1:Int),(x3:Int),(x5:Int)].length≠(0:Nat)))/\True) ((ac ((x5:Int)+(1:Int)))/\(∃x6:Nat,(((x6<=a.length)/\((x3<a.length)/\(co a c=Option.or (qp a c x1 x3 x6) (kZ a c x1))))/\((a.length-x6<a.length-x5)/\(((a.length:Int)=(a.length:Int))/\(((a.length:Int)=(a.length:Int))/\(((x1:Int)=(x1:Int))/\(((x1:Int)=(x1:Int))/\(((a.length:Int)=(a.length:Int))/\(((x3:Int)=(x3:Int))/\(((x3:Int)=(x3:Int))/\(((a.length:Int)=(a.length:Int))/\(((x5:Int)+(1:Int)=(x6:Int))/\((a=a)/\((c=c)/\(cd a=cd a)))))))))))))))))))))))))))))) ((ac ((x3:Int)+(1:Int)))/\(∃x7:Nat,(((x7<=a.length)/\((x1<a.length)/\(co a c=Option.or (b9 a.length (gk a c x1) (a.length-x7)) (kZ a c x1))))/\((a.length-x7<a.length-x3)/\(((a.length:Int)=(a.length:Int))/\(((a.length:Int)=(a.length:Int))/\(((x1:Int)=(x1:Int))/\(((x1:Int)=(x1:Int))/\(((a.length:Int)=(a.length:Int))/\(((x3:Int)+(1:Int)=(x7:Int))/\((a=a)/\((c=c)/\(cd a=cd a))))))))))))))))) ((ac ((x1:Int)+(1:Int)))/\(∃x8:Nat,(((x8<=a.length)/\(co a c=b9 a.length (fF a c) (a.length-x8)))/\((a.length-x8<a.length-x1)/\(((a.length:Int)=(a.length:Int))/\(((a.length:Int)=(a.length:Int))/\(((x1:Int)+(1:Int)=(x8:Int))/\((a=a)/\((c=c)/\(cd a=cd a)))))))))))))) ((true=Option.isNone (co a c))/\True))))))
theorem Mt(a:V8)(c:V8):aJ Tryz.prog (ai Em) ak (El a c) Tryz.f80 (aE Tryz.f80) [] [.agg [.rows .i64 a,.rows .i64 c]] (qo a c)=wb a c:=by kernel_rfl
theorem Mu(a:V8)(c:V8)(Yh:(qo a c).pre):wb a c:=by
 simp only[qo,wb,mJ,kZ,qp,aG,u1,u2,u3,u4,u5,u6,u7,u8,u9,v1,v2,v3,v4,v5,v6,v7,v8,v9,w1,w2,w3,w4,aH,aa,ac,af,ar]at Yh⊢;obtain⟨n1,n2,hl,ha,hc,hb⟩:=Ei Yh;have h1:=ju Yh.1
 have hbl:=F2 a
 refine⟨h1,⟨0,⟨by omega,rfl⟩,rfl⟩,fun i ⟨hi,hx⟩=>⟨fun h=>⟨⟨0,⟨by omega,by omega,?_⟩,rfl⟩,fun j ⟨hj,_,hy⟩=>⟨fun h2=>⟨⟨0,⟨by omega,by omega,?_⟩,rfl⟩,fun k ⟨hk,_,hz⟩=>⟨fun h3=>?_,fun h3=>?_⟩⟩,fun h2=>?_⟩⟩,fun h=>?_⟩⟩
 ·rw[hx,ko _ _ i (by omega)];rfl
 ·rw[hy,ko _ _ j (by omega)];rfl
 ·have A:=ha j (by omega)
  have A2:=A.2 k (by omega)
  have C:=hc i (by omega)
  have C1:=C.2 j (by omega)
  have C2:=C.2 k (by omega)
  have B:=hb i (by omega)
  have R1:=ha ((c.getD i []).getD j 0).toNat (by omega)
  have V:=R1.2 (bk a i).toNat (by omega)
  have R2:=ha ((a.getD ((c.getD i []).getD j 0).toNat []).getD (bk a i).toNat 0).toNat (by omega)
  rw[F3 a i (by omega)]
  refine⟨by omega,by omega,by omega,by omega,by omega,by omega,by omega,by omega,by omega,by omega,by omega,by omega,by omega,fun h4=>⟨?_,by omega⟩,fun h4=>⟨by omega,k+1,⟨by omega,by omega,?_⟩,by omega,by omega⟩⟩
  ·rw[hz,ko _ _ k (by omega),show iY a c i j k=some [(i:Int),(j:Int),(k:Int)] from if_neg h4];rfl
  ·rw[hz,ko _ _ k (by omega),show iY a c i j k=none from if_pos h4];rfl
 ·refine⟨by omega,j+1,⟨by omega,by omega,?_⟩,by omega,by omega⟩
  rw[hz,show a.length-k=0 by omega];rfl
 ·refine⟨by omega,i+1,⟨by omega,?_⟩,by omega,by omega⟩
  rw[hy,show a.length-j=0 by omega];rfl
 ·rw[hx,show a.length-i=0 by omega];rfl
theorem Mv:Fits Tryz.prog 80 ⟨[],wa⟩:=by
 refine aO (Γ:=ai Em) (aw OT aF) Tryz.func80 fun ds p h hp=>?_
 unfold wa at h;split at h
 ·cases h
  exact⟨ak,El _ _ ,by rw[Mt];exact Mu _ _  hp⟩
 ·cases h
def qq(a:V8)(c:V8):Post:=⟨aM a/\aM c,.c (.bool (ba a&&ba c&&decide (a.length=c.length))),[]⟩
def wc:List AD->Option Post
 | [.agg [.rows .i64 a,.rows .i64 c]]=>some (qq a c)
 |_=>none
def En:List (Nat×Ctr):=[(98,⟨[],xS⟩)]
def we(a:V8)(c:V8):Prop :=
 (aM a/\True)/\ae (ba a) ((aM c/\True)/\ae (ba c) (((a.length:Int) == (c.length:Int))=(ba a&&ba c&&decide (a.length=c.length))/\True) (false=(ba a&&ba c&&decide (a.length=c.length))/\True)) (false=(ba a&&ba c&&decide (a.length=c.length))/\True)
theorem Mw(a:V8)(c:V8):aJ Tryz.prog (ai En) ak am Tryz.f79 (aE Tryz.f79) [] [.agg [.rows .i64 a,.rows .i64 c]] (qq a c)=we a c:=by kernel_rfl
theorem Mx(a:V8)(c:V8)(Yh:(qq a c).pre):we a c:=by
 simp only[qq,we,aG,u1,u2,u3,u4,u5,u6,u7,u8,u9,v1,v2,v3,v4,v5,v6,v7,v8,v9,w1,w2,w3,w4,aH,aa,ac,af,ar]at Yh⊢;obtain⟨r1,r2⟩:=Yh;refine⟨r1,fun h=>⟨r2,fun h2=>?_,fun h2=>by simp[h,h2]⟩,fun h=>by simp[h]⟩
 rw[h,h2,Bool.true_and,Bool.true_and,Bool.eq_iff_iff,beq_iff_eq,decide_eq_true_iff];omega
theorem My:Fits Tryz.prog 79 ⟨[],wc⟩:=by
 refine aO (Γ:=ai En) (aw O0 aF) Tryz.func79 fun ds p h hp=>?_
 unfold wc at h;split at h
 ·cases h
  exact⟨ak,am,by rw[Mw];exact Mx _ _  hp⟩
 ·cases h
def qr(a:V8)(c:V8):Post:=⟨aM a/\aM c,.c (.bool (cN a c)),[]⟩
def wg:List AD->Option Post
 | [.agg [.rows .i64 a,.rows .i64 c]]=>some (qr a c)
 |_=>none
def Eo:List (Nat×Ctr):=[(79,⟨[],wc⟩),(80,⟨[],wa⟩)]
def wh(a:V8)(c:V8):Prop :=
 ((aM a/\aM c)/\True)/\ae (ba a&&ba c&&decide (a.length=c.length)) ((ou a c/\True)/\Option.isNone (co a c)=cN a c/\True) (false=cN a c/\True)
theorem Mz(a:V8)(c:V8):aJ Tryz.prog (ai Eo) ak am Tryz.f36 (aE Tryz.f36) [] [.agg [.rows .i64 a,.rows .i64 c]] (qr a c)=wh a c:=by kernel_rfl
theorem MB(a:V8)(c:V8)(Yh:(qr a c).pre):wh a c:=by
 simp only[qr,wh,aG,u1,u2,u3,u4,u5,u6,u7,u8,u9,v1,v2,v3,v4,v5,v6,v7,v8,v9,w1,w2,w3,w4,aH,aa,ac,af,ar]at Yh⊢;refine⟨Yh,fun h=>?_,fun h=>by rw[cN,h,Bool.false_and]⟩
 have h2:=h
 simp only[Bool.and_eq_true,decide_eq_true_eq]at h2;exact⟨⟨h2.1.1,h2.1.2,h2.2⟩,by rw[cN,h,Bool.true_and]⟩
theorem ME:Fits Tryz.prog 36 ⟨[],wg⟩:=by
 refine aO (Γ:=ai Eo) (aw My (aw Mv aF)) Tryz.func36 fun ds p h hp=>?_
 unfold wg at h;split at h
 ·cases h
  exact⟨ak,am,by rw[Mz];exact MB _ _  hp⟩
 ·cases h
def qt(a:V8)(c:V8):Post:=⟨aM a/\aM c,.c (.bool (cN a c)),[]⟩
def wi:List AD->Option Post
 | [.agg [.rows .i64 a,.rows .i64 c]]=>some (qt a c)
 |_=>none
def Ep:List (Nat×Ctr):=[(94,⟨[],xU⟩),(111,⟨[],vY⟩)]
def wj(a:V8)(c:V8):Prop :=
 (aM a/\True)/\ae (ba a) ((aM c/\True)/\ae (ba c) (ae ((a.length:Int) == (c.length:Int)) ((ou a c/\True)/\((↑((Option.getD (co a c) []).length):Int) == (0:Int))=cN a c/\True) (false=cN a c/\True)) (false=cN a c/\True)) (false=cN a c/\True)
theorem MF(a:V8)(c:V8):aJ Tryz.prog (ai Ep) ak am Tryz.f61 (aE Tryz.f61) [] [.agg [.rows .i64 a,.rows .i64 c]] (qt a c)=wj a c:=by kernel_rfl
theorem MG(a:V8)(c:V8)(Yh:(qt a c).pre):wj a c:=by
 simp only[qt,wj,aG,u1,u2,u3,u4,u5,u6,u7,u8,u9,v1,v2,v3,v4,v5,v6,v7,v8,v9,w1,w2,w3,w4,aH,aa,ac,af,ar]at Yh⊢;obtain⟨r1,r2⟩:=Yh;refine⟨r1,fun h=>⟨r2,fun h2=>⟨fun h3=>⟨⟨h,h2,by omega⟩,?_⟩,fun h3=>?_⟩,fun h2=>by simp[cN,h2]⟩,fun h=>by simp[cN,h]⟩
 ·rw[cN,h,h2,decide_eq_true (show a.length=c.length by omega),Bool.true_and,Bool.true_and,Bool.true_and]
  cases hf:co a c with
  |none=>rfl
  |some l =>
   have hl:=OL hf
   cases l with
   |nil=>exact absurd rfl hl
   |cons x l=>simp;omega
 ·rw[cN,decide_eq_false (show ¬ a.length=c.length by omega)];simp
theorem MH:Fits Tryz.prog 61 ⟨[],wi⟩:=by
 refine aO (Γ:=ai Ep) (aw O7 (aw Ms aF)) Tryz.func61 fun ds p h hp=>?_
 unfold wi at h;split at h
 ·cases h
  exact⟨ak,am,by rw[MF];exact MG _ _  hp⟩
 ·cases h
end Go.Sx
