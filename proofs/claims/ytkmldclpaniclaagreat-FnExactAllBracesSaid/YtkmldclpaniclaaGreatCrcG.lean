/- CrcG -/
import Derived.Test.YtkmldclpaniclaaGreatEqt
import Derived.Test.YtkmldclpaniclaaGreatRack
open Go Go.Proofs
namespace Go.Sx
set_option linter.unusedSimpArgs false
set_option linter.unusedVariables false
def jg(t L:List (List Int))(x y:Nat):Bool:=!decide ((en t x (en L x y).toNat).toNat<L.length)||decide (L.getD (en t x (en L x y).toNat).toNat []=aT (L.getD y []) (L.getD x []))
def mo(t L:List (List Int))(x:Nat):Bool:=(List.range L.length).all (jg t L x)
def gY(t L:List (List Int)):Bool:=(List.range L.length).all (mo t L)
def iK(n:Nat)(L:List (List Int)):Prop:=∀r∈L,r.length=n/\∀i,i<n->0<=r.getD i 0/\r.getD i 0<(n:Int)
def qy(t:List (List Int))(A:List (List Int))(L:List (List Int))(fd:List (List (List Int))):Post:=⟨t.length<=7/\aB t.length t/\iK t.length L/\L.length<=t.length,.c (.bool (gY t L)),[]⟩
def vY:List AD->Option Post
 | [.box [.rows .i64 t,.rows .i64 A,.rows .i64 L,.r3 .i64 fd]]=>some (qy t A L fd)
 |_=>none
def D0(t:List (List Int))(A:List (List Int))(L:List (List Int))(fd:List (List (List Int))):Nat->Option Ann
 |0=>some (Ann.mk ((Nat)) (fun x=>⟨[(0,.c (.rob [.rows .i64 t,.rows .i64 A,.rows .i64 L,.r3 .i64 fd] 0)),(11,.c (.ro (.rows .i64 L))),(12,.c (.int .i64 ((L.length:Int)))),(13,.c (.int .i64 ((x:Int))))],[]⟩) (fun x=>x<=L.length/\(∀x',x'<x->mo t L x'=true)) (fun x=>L.length-x) (fun x=>fun b_=>match b_ with|2=>some (Ann.mk ((Nat)) (fun y=>⟨[(0,.c (.rob [.rows .i64 t,.rows .i64 A,.rows .i64 L,.r3 .i64 fd] 0)),(11,.c (.ro (.rows .i64 L))),(12,.c (.int .i64 ((L.length:Int)))),(13,.c (.int .i64 ((x:Int)))),(3,.c (.int .i64 ((x:Int)))),(4,.c (.ro (.ints .i64 ((L.getD x []))))),(21,.c (.ro (.rows .i64 L))),(22,.c (.int .i64 ((L.length:Int)))),(23,.c (.int .i64 ((y:Int))))],[]⟩) (fun y=>y<=L.length/\x<L.length/\(∀y',y'<y->jg t L x y'=true)) (fun y=>L.length-y) (fun _=>av))|_=>none))
 |_=>none
def D1:List (Nat×Ctr):=[(92,⟨[],wA⟩),(88,⟨[],wD⟩)]
def vZ(t:List (List Int))(A:List (List Int))(L:List (List Int))(fd:List (List (List Int))):Prop :=
 ((∃x0:Nat,(x0<=L.length/\∀(x':Nat),x'<x0->mo t L x'=true)/\[FC.rows IntKind.i64 t,FC.rows IntKind.i64 A,FC.rows IntKind.i64 L,FC.r3 IntKind.i64 fd]=[FC.rows IntKind.i64 t,FC.rows IntKind.i64 A,FC.rows IntKind.i64 L,FC.r3 IntKind.i64 fd]/\(0:Nat)=(0:Nat)/\L=L/\(L.length:Int)=(L.length:Int)/\(0:Int)=(x0:Int))/\(∀x1:Nat,((x1<=L.length/\∀(x':Nat),x'<x1->mo t L x'=true)->(ae (decide ((x1:Int)<(L.length:Int))) (ab (x1:Int) L.length/\((∃x2:Nat,(x2<=L.length/\x1<L.length/\∀(y':Nat),y'<x2->jg t L x1 y'=true)/\[FC.rows IntKind.i64 t,FC.rows IntKind.i64 A,FC.rows IntKind.i64 L,FC.r3 IntKind.i64 fd]=[FC.rows IntKind.i64 t,FC.rows IntKind.i64 A,FC.rows IntKind.i64 L,FC.r3 IntKind.i64 fd]/\(0:Nat)=(0:Nat)/\L=L/\(L.length:Int)=(L.length:Int)/\(x1:Int)=(x1:Int)/\(x1:Int)=(x1:Int)/\L.getD (x1:Int).toNat []=L.getD x1 []/\L=L/\(L.length:Int)=(L.length:Int)/\(0:Int)=(x2:Int))/\(∀x3:Nat,((x3<=L.length/\x1<L.length/\∀(y':Nat),y'<x3->jg t L x1 y'=true)->(ae (decide ((x3:Int)<(L.length:Int))) (ab (x3:Int) L.length/\(ab (x1:Int) t.length/\(ab (x3:Int) (L.getD x1 []).length/\((ab ((List.getD L x1 []).getD (x3:Int).toNat (0:Int)) ((t.getD (x1:Int).toNat []).length)) /\
 (ae (decide ((List.getD t (x1:Int).toNat []).getD (((List.getD L x1 []).getD (x3:Int).toNat (0:Int)).toNat) (0:Int)<(L.length:Int))) (ab ((List.getD t (x1:Int).toNat []).getD (((List.getD L x1 []).getD (x3:Int).toNat (0:Int)).toNat) (0:Int)) L.length/\(((L.getD (x3:Int).toNat []).length<=(1000:Nat)/\iJ (L.getD x1 []).length (L.getD (x3:Int).toNat []))/\True)/\(((L.getD (((List.getD t (x1:Int).toNat []).getD (((List.getD L x1 []).getD (x3:Int).toNat (0:Int)).toNat) (0:Int)).toNat) []).length<=(9223372036854775807:Nat)/\(aT (L.getD (x3:Int).toNat []) (L.getD x1 [])).length<=(9223372036854775807:Nat))/\True)/\ae (!decide (L.getD (((List.getD t (x1:Int).toNat []).getD (((List.getD L x1 []).getD (x3:Int).toNat (0:Int)).toNat) (0:Int)).toNat) []=aT (L.getD (x3:Int).toNat []) (L.getD x1 []))) (false=gY t L/\True) (ac ((x3:Int)+(1:Int))/\∃x4:Nat,(x4<=L.length/\x1<L.length/\∀(y':Nat),y'<x4->jg t L x1 y'=true)/\L.length-x4<L.length-x3/\[FC.rows IntKind.i64 t,FC.rows IntKind.i64 A,FC.rows IntKind.i64 L,FC.r3 IntKind.i64 fd]=[FC.rows IntKind.i64 t,FC.rows IntKind.i64 A,FC.rows IntKind.i64 L,FC.r3 IntKind.i64 fd]/\(0:Nat)=(0:Nat)/\L=L/\(L.length:Int)=(L.length:Int)/\(x1:Int)=(x1:Int)/\(x1:Int)=(x1:Int)/\L.getD x1 []=L.getD x1 []/\L=L/\(L.length:Int)=(L.length:Int)/\(x3:Int)+(1:Int)=(x4:Int)))
 ((ac ((x3:Int)+(1:Int)))/\(∃x5:Nat,(((x5<=L.length)/\((x1<L.length)/\(∀(y':Nat),y'<x5->jg t L x1 y'=true)))/\((L.length-x5<L.length-x3)/\(([FC.rows IntKind.i64 t,FC.rows IntKind.i64 A,FC.rows IntKind.i64 L,FC.r3 IntKind.i64 fd]=[FC.rows IntKind.i64 t,FC.rows IntKind.i64 A,FC.rows IntKind.i64 L,FC.r3 IntKind.i64 fd])/\(((0:Nat)=(0:Nat))/\((L=L)/\(((L.length:Int)=(L.length:Int))/\(((x1:Int)=(x1:Int))/\(((x1:Int)=(x1:Int))/\((L.getD x1 []=L.getD x1 [])/\((L=L)/\(((L.length:Int)=(L.length:Int))/\((x3:Int)+(1:Int)=(x5:Int)))))))))))))))))))) ((ac ((x1:Int)+(1:Int)))/\(∃x6:Nat,(((x6<=L.length)/\(∀(x':Nat),x'<x6->mo t L x'=true))/\((L.length-x6<L.length-x1)/\(([FC.rows IntKind.i64 t,FC.rows IntKind.i64 A,FC.rows IntKind.i64 L,FC.r3 IntKind.i64 fd]=[FC.rows IntKind.i64 t,FC.rows IntKind.i64 A,FC.rows IntKind.i64 L,FC.r3 IntKind.i64 fd])/\(((0:Nat)=(0:Nat))/\((L=L)/\(((L.length:Int)=(L.length:Int))/\((x1:Int)+(1:Int)=(x6:Int))))))))))))))) ((true=gY t L)/\True)))))
theorem LF(t:List (List Int))(A:List (List Int))(L:List (List Int))(fd:List (List (List Int))):aY Tryz.prog (aj D1) am (D0 t A L fd) Tryz.f185 (aP Tryz.f185) [] [.box [.rows .i64 t,.rows .i64 A,.rows .i64 L,.r3 .i64 fd]] (qy t A L fd)=vZ t A L fd:=by kernel_rfl
theorem LG(t:List (List Int))(A:List (List Int))(L:List (List Int))(fd:List (List (List Int)))(Yh:(qy t A L fd).pre):vZ t A L fd:=by
 simp only[qy,vZ,aX,u1,u2,u3,u4,u5,u6,u7,u8,u9,v1,v2,v3,v4,v5,v6,v7,v8,v9,w1,w2,w3,w4,aN,ab,ac,ah,ax]at Yh⊢;obtain⟨h1,h2,h3,h4⟩:=Yh;have row:∀z,z<L.length->(L.getD z []).length=t.length/\∀i,i<t.length->0<=(L.getD z []).getD i 0/\(L.getD z []).getD i 0<(t.length:Int):=fun z hz=>h3 _ (bO L [] z hz)
 refine⟨⟨0,⟨by omega,fun x' hx=>by omega⟩,rfl⟩,fun x ⟨hx,hX⟩=>⟨fun hlt=>⟨by omega,⟨0,⟨by omega,by omega,fun y' hy=>by omega⟩,rfl⟩,fun y ⟨hy,hxl,hY⟩=>⟨fun hylt=>?_,fun hyge=>?_⟩⟩,fun hge=>?_⟩⟩
 ·have hyl:y<L.length:=by omega
  obtain⟨r1,r2⟩:=row x hxl;obtain⟨q1,q2⟩:=row y hyl;obtain⟨t1,t2⟩:=h2.2 x (by omega)
  have v:=r2 y (by omega)
  have ht:=t2 ((L.getD x []).getD y 0).toNat (by omega)
  simp only[en]at ht;have hf:jg t L x y=(!decide (((t.getD x []).getD ((L.getD x []).getD y 0).toNat 0).toNat<L.length)||decide (L.getD ((t.getD x []).getD ((L.getD x []).getD y 0).toNat 0).toNat []=aT (L.getD y []) (L.getD x []))):=rfl
  generalize (t.getD x []).getD ((L.getD x []).getD y 0).toNat 0=z at *
  refine⟨by omega,by omega,by omega,by omega,fun hz=>?_,fun hz=>?_⟩
  ·have hzl:z.toNat<L.length:=by omega
   refine⟨⟨by omega,hz⟩,⟨by omega,fun i hi=>by rw[r1];exact q2 i (by omega)⟩,⟨by rw[(row _ hzl).1];omega,by rw[gB];omega⟩,fun hne=>?_,fun he=>⟨by omega,y+1,⟨by omega,hxl,fun y' hy'=>?_⟩,by omega,by omega⟩⟩
   ·rw[decide_eq_true hzl,decide_eq_false hne]at hf
    have hf:jg t L x y=false:=hf
    symm
    rw[<-Bool.not_eq_true];intro hall
    have:=List.all_eq_true.1 (List.all_eq_true.1 hall x (by simpa using hxl)) y (by simpa using hyl)
    rw[hf]at this;cases this
   ·by_cases e:y'=y
    ·subst e;rw[hf,decide_eq_true he];simp
    ·exact hY y' (by omega)
  ·refine⟨by omega,y+1,⟨by omega,hxl,fun y' hy'=>?_⟩,by omega,by omega⟩
   by_cases e:y'=y
   ·subst e;rw[hf,decide_eq_false (by omega)];rfl
   ·exact hY y' (by omega)
 ·refine⟨by omega,x+1,⟨by omega,fun x' hx'=>?_⟩,by omega,by omega⟩
  by_cases e:x'=x
  ·subst e; exact List.all_eq_true.2 fun y hy' => hY y (by have:y<L.length:=by simpa using hy'
                                                           omega)
  ·exact hX x' (by omega)
 ·exact (List.all_eq_true.2 fun x' hx' => hX x' (by have:x'<L.length:=by simpa using hx'
                                                    omega)).symm
theorem LH:Fits Tryz.prog 185 ⟨[],vY⟩:=by
 refine bf (Γ:=aj D1) (aD Mn (aD Mq aW)) Tryz.func185 fun ds p h hp=>?_
 unfold vY at h;split at h
 ·cases h
  exact⟨am,D0 _ _ _ _ ,by rw[LF];exact LG _ _ _ _  hp⟩
 ·cases h
def qz(x:Int)(y:Int)(t:List (List Int))(A:List (List Int))(L:List (List Int))(fd:List (List (List Int))):Post:=⟨aB t.length t/\iK t.length L/\0<=x/\x<(t.length:Int)/\x<(L.length:Int)/\0<=y/\y<(t.length:Int),.c (.int .i64 (en t x.toNat (en L x.toNat y.toNat).toNat)),[]⟩
def mq:List AD->Option Post
 | [.c (.int .i64 x),.c (.int .i64 y),.bb [.rows .i64 t,.rows .i64 A,.rows .i64 L,.r3 .i64 fd]]=>some (qz x y t A L fd)
 |_=>none
def D2:List (Nat×Ctr):=[]
def wa(x:Int)(y:Int)(t:List (List Int))(A:List (List Int))(L:List (List Int))(fd:List (List (List Int))):Prop :=
 ab x t.length/\ab x L.length/\ab y (L.getD x.toNat []).length/\ab ((List.getD L x.toNat []).getD y.toNat (0:Int)) (t.getD x.toNat []).length/\(List.getD t x.toNat []).getD (((List.getD L x.toNat []).getD y.toNat (0:Int)).toNat) (0:Int)=en t x.toNat (en L x.toNat y.toNat).toNat/\True
theorem LI(x:Int)(y:Int)(t:List (List Int))(A:List (List Int))(L:List (List Int))(fd:List (List (List Int))):aY Tryz.prog (aj D2) am av Tryz.f184 (aP Tryz.f184) [] [.c (.int .i64 x),.c (.int .i64 y),.bb [.rows .i64 t,.rows .i64 A,.rows .i64 L,.r3 .i64 fd]] (qz x y t A L fd)=wa x y t A L fd:=by kernel_rfl
theorem LJ(x:Int)(y:Int)(t:List (List Int))(A:List (List Int))(L:List (List Int))(fd:List (List (List Int)))(Yh:(qz x y t A L fd).pre):wa x y t A L fd:=by
 simp only[qz,wa,aX,u1,u2,u3,u4,u5,u6,u7,u8,u9,v1,v2,v3,v4,v5,v6,v7,v8,v9,w1,w2,w3,w4,aN,ab,ac,ah,ax]at Yh⊢;obtain⟨h2,h3,x0,x1,x2,y0,y1⟩:=Yh;obtain⟨r1,r2⟩:=h3 _ (bO L [] x.toNat (by omega))
 obtain⟨t1,t2⟩:=h2.2 x.toNat (by omega)
 have v:=r2 y.toNat (by omega)
 exact⟨by omega,by omega,by omega,by omega,rfl⟩
theorem LK:Fits Tryz.prog 184 ⟨[],mq⟩:=by
 refine bf (Γ:=aj D2) aW Tryz.func184 fun ds p h hp=>?_
 unfold mq at h;split at h
 ·cases h
  exact⟨am,av,by rw[LI];exact LJ _ _ _ _ _ _  hp⟩
 ·cases h
def eh(t L:List (List Int)):List (List Int):=bQ t.length fun x y=>en t x (en L x y).toNat
def dD(t:List (List Int))(A L:List (List Int))(rec:List (List Int)->List (List (List Int))->List (List (List Int)))(fd:List (List (List Int))):Nat->List (List (List Int))
 |0=>fd
 |i+1=>if gY t (L++[A.getD i []])=true then rec (L++[A.getD i []]) (dD t A L rec fd i)else dD t A L rec fd i
def cf(t A:List (List Int)):Nat->List (List Int)->List (List (List Int))->List (List (List Int))
 |0,_,fd=>fd
 |d+1,L,fd=>if L.length=t.length then fd++[eh t L]else dD t A L (cf t A d) fd A.length
theorem wb{t A L:List (List Int)}{rec:List (List Int)->List (List (List Int))->List (List (List Int))}{fd:List (List (List Int))}{M:Nat}(h:∀i fd',i<A.length->(rec (L++[A.getD i []]) fd').length<=fd'.length+M):∀i,i<=A.length->(dD t A L rec fd i).length<=fd.length+i*M
 |0,_=>by simp[dD]
 |i+1,hi=>by
  have:=wb (t:=t) (fd:=fd) h i (by omega)
  have e:(i+1)*M=i*M+M:=Nat.succ_mul i M
  rw[dD];split
  ·have:=h i (dD t A L rec fd i) (by omega)
   omega
  ·omega
theorem wc{t A:List (List Int)}(hA:A.length<=49):∀(d:Nat) (L:List (List Int)) (fd:List (List (List Int))),L.length<=t.length->(cf t A d L fd).length<=fd.length+49 ^ (t.length-L.length)
 |0,L,fd,_=>by simp[cf]
 |d+1,L,fd,h=>by
  rw[cf];split
  ·rename_i e
   rw[e];simp
  ·rename_i e
   have h1:=wb (t:=t) (A:=A) (L:=L) (rec:=cf t A d) (fd:=fd) (M:=49 ^ (t.length-(L.length+1))) (fun i fd' hi=>by
    have:=wc (t:=t) hA d (L++[A.getD i []]) fd' (by simp;omega)
    simpa using this) A.length (Nat.le_refl _)
   have h2:49 ^ (t.length-L.length)=49*49 ^ (t.length-(L.length+1)):=by
    rw[show t.length-L.length=(t.length-(L.length+1))+1 by omega,Nat.pow_succ,Nat.mul_comm]
   have h3:A.length*49 ^ (t.length-(L.length+1))<=49*49 ^ (t.length-(L.length+1)):=Nat.mul_le_mul_right _ hA
   omega
def D3(d:Nat)(t:List (List Int))(A:List (List Int))(L:List (List Int))(fd:List (List (List Int))):SV:=.tup []
def D4(d:Nat)(t:List (List Int))(A:List (List Int))(L:List (List Int))(fd:List (List (List Int))):List MA:=[.box [.c (.rows .i64 t),.c (.rows .i64 A),.ob (.lst 0 62 (.rows .i64 L)),.ob (.tr 0 [22,62,2] (.r3 .i64 ((cf t A d L fd))))]]
def D5(d:Nat)(t:List (List Int))(A:List (List Int))(L:List (List Int))(fd:List (List (List Int))):List (Nat×Ob):=[]
def mr(d:Nat)(t:List (List Int))(A:List (List Int))(L:List (List Int))(fd:List (List (List Int))):Post:=⟨t.length<=7/\aB t.length t/\iK t.length A/\iK t.length L/\A.length<=49/\L.length<=t.length/\t.length<d+L.length/\fd.length+49 ^ (t.length-L.length)<=1099511627776,.st (D3 d t A L fd) (D5 d t A L fd) (D4 d t A L fd),[]⟩
def mw(d:Nat):List AD->Option Post
 | [.ma (.box [.c (.rows .i64 t),.c (.rows .i64 A),.ob (.lst 0 62 (.rows .i64 L)),.ob (.tr 0 [22,62,2] (.r3 .i64 fd))])]=>some (mr d t A L fd)
 |_=>none
def D6(d:Nat)(t:List (List Int))(A:List (List Int))(L:List (List Int))(fd:List (List (List Int))):Nat->Option Ann
 |0=>some (Ann.mk ((Nat)) (fun i=>⟨[(1,.c (.ptr 500 0)),(2,.c (.int .i64 ((L.length:Int)))),(32,.c (.ro (.rows .i64 A))),(33,.c (.int .i64 ((A.length:Int)))),(34,.c (.int .i64 ((i:Int))))],[(500,some (.box [.ptr 7000 0])),(7000,some (.box [.ro (.rows .i64 t),.ro (.rows .i64 A),.own 7003,.own 7004])),(7003,some (.lst 0 62 (.rows .i64 L))),(7004,some (.tr 0 [22,62,2] (.r3 .i64 (dD t A L (cf t A (d-1)) fd i))))]⟩) (fun i=>i<=A.length/\L.length≠t.length) (fun i=>A.length-i) (fun _=>av))
 |_=>none
def D7(t:Nat):Bool:=[2000025,4000058].contains t
def D8(d:Nat):List (Nat×Ctr):=[(185,⟨[],vY⟩),(184,⟨[],mq⟩),(124,⟨[],lh⟩),(133,⟨[(0,93),(0,93)],mw d⟩)]
def gz(A:List (List Int))(L:List (List Int))(x0:Nat):=(L++A.getD (↑x0:Int).toNat []::([]:List (List Int)))
def we(d:Nat)(t:List (List Int))(A:List (List Int))(L:List (List Int))(fd:List (List (List Int))):Prop :=
 (ae ((↑(FC.len (FC.rows IntKind.i64 L)):Int) == (t.length:Int)) ((((0:Int)<=(↑(FC.len (FC.rows IntKind.i64 L)):Int)/\(↑(FC.len (FC.rows IntKind.i64 L)):Int)<=(144:Int)/\∀(x y:Int),(0:Int)<=x->x<(↑(FC.len (FC.rows IntKind.i64 L)):Int)->(0:Int)<=y->y<(↑(FC.len (FC.rows IntKind.i64 L)):Int)->ip (mq [AD.c (FC.int IntKind.i64 x),AD.c (FC.int IntKind.i64 y),AD.bb [FC.rows IntKind.i64 t,FC.rows IntKind.i64 A,FC.rows IntKind.i64 L,FC.r3 IntKind.i64 fd]]))/\True)/\ah (FC.len (FC.r3 IntKind.i64 fd)+FC.len (FC.r3 IntKind.i64 ((bQ ((↑(FC.len (FC.rows IntKind.i64 L)):Int).toNat) fun(x y:Nat)=>io (mq [AD.c (FC.int IntKind.i64 (x:Int)),AD.c (FC.int IntKind.i64 (y:Int)),AD.bb [FC.rows IntKind.i64 t,FC.rows IntKind.i64 A,FC.rows IntKind.i64 L,FC.r3 IntKind.i64 fd]]))::([]:List (List (List Int))))))/\t=t/\A=A/\L=L/\fd++(bQ ((↑(FC.len (FC.rows IntKind.i64 L)):Int).toNat) fun(x y:Nat)=>io (mq [AD.c (FC.int IntKind.i64 (x:Int)),AD.c (FC.int IntKind.i64 (y:Int)),AD.bb [FC.rows IntKind.i64 t,FC.rows IntKind.i64 A,FC.rows IntKind.i64 L,FC.r3 IntKind.i64 fd]]))::([]:List (List (List Int)))=cf t A (d+(1:Nat)) L fd) ((∃x0:Nat,((x0<=A.length/\L.length≠t.length)/\((↑(FC.len (FC.rows IntKind.i64 L)):Int)=(L.length:Int)/\(A=A/\((A.length:Int)=(A.length:Int)/\((0:Int)=(x0:Int)/\(t=t/\(A=A/\((L=L) /\
 (fd=dD t A L (cf t A (d+(1:Nat)-(1:Nat))) fd x0))))))))))/\(∀x1:Nat,(((x1<=A.length)/\(L.length≠t.length))->(ae (decide ((x1:Int)<(A.length:Int))) ((ab (x1:Int) A.length)/\((ah (FC.len (FC.rows IntKind.i64 L)+FC.len (FC.rows IntKind.i64 (A.getD (x1:Int).toNat []::([]:List (List Int))))))/\((((t.length<=(7:Nat))/\((aB t.length t)/\((iK t.length (gz A L x1))/\((gz A L x1).length<=t.length))))/\True)/\(ae (gY t (L++A.getD (x1:Int).toNat []::([]:List (List Int)))) (((t.length<=(7:Nat))/\((aB t.length t)/\((iK t.length A)/\((iK t.length (gz A L x1))/\((A.length<=(49:Nat))/\(((gz A L x1).length<=t.length)/\((t.length<d+(gz A L x1).length)/\((dD t A L (cf t A (d+(1:Nat)-(1:Nat))) fd x1).length+(49:Nat) ^ (t.length-(gz A L x1).length)<=(1099511627776:Nat)))))))))/\((((0:Int)<=(L.length:Int))/\((L.length:Int)<=(↑((gz A L x1).length):Int)))/\((ac ((x1:Int)+(1:Int)))/\(∃x2:Nat,(((x2<=A.length)/\(L.length≠t.length))/\((A.length-x2<A.length-x1)/\(((L.length:Int)=(L.length:Int))/\((A=A)/\(((A.length:Int)=(A.length:Int))/\(((x1:Int)+(1:Int)=(x2:Int))/\((t=t)/\((A=A)/\((List.take ((L.length:Int).toNat) (gz A L x1)=L)/\(cf t A d (gz A L x1) (dD t A L (cf t A (d+(1:Nat)-(1:Nat))) fd x1)=dD t A L (cf t A (d+(1:Nat)-(1:Nat))) fd x2)))))))))))))) ((((0:Int)<=(L.length:Int)) /\
 ((L.length:Int)<=(↑((gz A L x1).length):Int)))/\((ac ((x1:Int)+(1:Int)))/\(∃x3:Nat,(((x3<=A.length)/\(L.length≠t.length))/\((A.length-x3<A.length-x1)/\(((L.length:Int)=(L.length:Int))/\((A=A)/\(((A.length:Int)=(A.length:Int))/\(((x1:Int)+(1:Int)=(x3:Int))/\((t=t)/\((A=A)/\((List.take ((L.length:Int).toNat) (gz A L x1)=L)/\(dD t A L (cf t A (d+(1:Nat)-(1:Nat))) fd x1=dD t A L (cf t A (d+(1:Nat)-(1:Nat))) fd x3))))))))))))))))) ((t=t)/\((A=A)/\((L=L)/\(dD t A L (cf t A (d+(1:Nat)-(1:Nat))) fd x1=cf t A (d+(1:Nat)) L fd)))))))))
theorem LL(d:Nat)(t:List (List Int))(A:List (List Int))(L:List (List Int))(fd:List (List (List Int))):kE Tryz.prog (aj (D8 d)) D7 (D6 (d+1) t A L fd) Tryz.f133 (aP Tryz.f133) [.box [.c (.rows .i64 t),.c (.rows .i64 A),.ob (.lst 0 62 (.rows .i64 L)),.ob (.tr 0 [22,62,2] (.r3 .i64 fd))]] (D3 (d+1) t A L fd) (gn 0 (D4 (d+1) t A L fd)++gK (D5 (d+1) t A L fd))=we d t A L fd:=by kernel_rfl
theorem LM(d:Nat)(t:List (List Int))(A:List (List Int))(L:List (List Int))(fd:List (List (List Int)))(Yh:(mr (d+1) t A L fd).pre):we d t A L fd:=by
 simp only[mr,we,gz,aX,u1,u2,u3,u4,u5,u6,u7,u8,u9,v1,v2,v3,v4,v5,v6,v7,v8,v9,w1,w2,w3,w4,aN,ab,ac,ah,ax]at Yh⊢;obtain⟨h1,h2,h3,h4,h5,h6,h7,h8⟩:=Yh;simp only[FC.len,Nat.add_sub_cancel];refine⟨fun e=>⟨⟨by omega,by omega,fun x y x0 x1 y0 y1=>⟨h2,h4,x0,by omega,x1,y0,by omega⟩⟩,?_,?_⟩,fun ne=>?_⟩
 ·have:t.length-L.length=0:=by omega
  rw[this]at h8
  simpa using h8
 ·have e:L.length=t.length:=by omega
  rw[cf,if_pos e]
  congr 2
  rw[eh,e];rfl
 ·have ne:L.length≠t.length:=by omega
  refine⟨⟨0,⟨Nat.zero_le _,ne⟩,by trivial,by trivial,by trivial⟩,fun i ⟨hi,_⟩=>⟨fun hlt=>?_,fun hge=>?_⟩⟩
  ·have hil:i<A.length:=by omega
   have hL:iK t.length (L++[A.getD i []]):=fun r hr=>by
    rcases List.mem_append.1 hr with hr|hr
    ·exact h4 r hr
    ·rw[List.mem_singleton]at hr
     subst hr;exact h3 _ (bO A [] i hil)
   have hM:=wb (t:=t) (A:=A) (L:=L) (rec:=cf t A d) (fd:=fd) (M:=49 ^ (t.length-(L.length+1))) (fun k fd' hk=>by
    have:=wc (t:=t) h5 d (L++[A.getD k []]) fd' (by simp;omega)
    simpa using this) i hi
   have h9:49 ^ (t.length-L.length)=49*49 ^ (t.length-(L.length+1)):=by
    rw[show t.length-L.length=(t.length-(L.length+1))+1 by omega,Nat.pow_succ,Nat.mul_comm]
   have h10:(i+1)*49 ^ (t.length-(L.length+1))<=49*49 ^ (t.length-(L.length+1)):=Nat.mul_le_mul_right _ (by omega)
   have h11:(i+1)*49 ^ (t.length-(L.length+1))=i*49 ^ (t.length-(L.length+1))+49 ^ (t.length-(L.length+1)):=Nat.succ_mul _ _
   have tk:List.take L.length (L++[A.getD i []])=L:=by simp
   refine⟨⟨by omega,hlt⟩,by simp only[List.length_singleton];omega,⟨h1,h2,hL,by omega⟩,fun hf=>⟨⟨h1,h2,h3,hL,h5,by omega,by omega,by rw[Nat.zero_add];omega⟩,⟨by omega,by omega⟩,by omega,i+1,⟨by omega,ne⟩,by omega,by omega,tk,?_⟩,fun hf=>⟨⟨by omega,by omega⟩,by omega,i+1,⟨by omega,ne⟩,by omega,by omega,tk,?_⟩⟩
   ·show _=dD t A L (cf t A d) fd (i+1)
    rw[dD,if_pos hf]
   ·show _=dD t A L (cf t A d) fd (i+1)
    rw[dD,if_neg (by rw[hf];simp)]
  ·have:i=A.length:=by omega
   rw[this]
   show _=cf t A (d+1) L fd
   rw[cf,if_neg ne]
theorem LN(t:List (List Int))(A:List (List Int))(L:List (List Int))(fd:List (List (List Int)))(h:(mr 0 t A L fd).pre):False:=by
 simp only[mr]at h;omega
theorem LO(d:Nat):Fits Tryz.prog 133 ⟨[(0,93),(0,93)],mw d⟩:=by
 induction d with
 |zero =>
  refine Co ⟨Tryz.f133,Tryz.func133,by kernel_rfl,by kernel_rfl⟩ fun ds p h hp=>?_
  unfold mw at h;split at h
  ·cases h
   exact LN _ _ _ _  hp
  ·cases h
 |succ d ih =>
  refine nL (Γ:=aj (D8 d)) (aD LH (aD LK (aD oy (aD ih aW)))) Tryz.func133 (by kernel_rfl) (by kernel_rfl) (fun ads p h=>?_) fun mas q sv ex outs h hq=>?_
  ·unfold mw at h
   split at h
   ·cases h;rfl
   ·cases h
  ·unfold mw at h
   split at h
   ·rename_i heq
    have heq:=md (l:=[_]) heq
    subst heq;unfold mr at h;cases h;exact⟨D7,D6 _ _ _ _ _ ,by rw[LL];exact LM _ _ _ _ _  hq⟩
   ·cases h
end Go.Sx
