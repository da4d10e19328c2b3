/- CrcG -/
import Derived.Test.YtkmldclpaniclaaGreatEqt
import Derived.Test.YtkmldclpaniclaaGreatRack
open Go Go.Proofs
namespace Go.Sx
set_option linter.unusedSimpArgs false
set_option linter.unusedVariables false
def jg(t L:List (List Int))(x y:Nat):Bool:=!decide ((en t x (en L x y).toNat).toNat<L.length)||decide (L.getD (en t x (en L x y).toNat).toNat []=aU (L.getD y []) (L.getD x []))
def mi(t L:List (List Int))(x:Nat):Bool:=(List.range L.length).all (jg t L x)
def gX(t L:List (List Int)):Bool:=(List.range L.length).all (mi t L)
def iH(n:Nat)(L:List (List Int)):Prop:=∀r∈L,r.length=n/\∀i,i<n->0<=r.getD i 0/\r.getD i 0<(n:Int)
def qr(t:List (List Int))(A:List (List Int))(L:List (List Int))(fd:List (List (List Int))):Post:=⟨t.length<=7/\aT t.length t/\iH t.length L/\L.length<=t.length,.c (.bool (gX t L)),[]⟩
def wu:List AD->Option Post
 | [.box [.rows .i64 t,.rows .i64 A,.rows .i64 L,.r3 .i64 fd]]=>some (qr t A L fd)
 |_=>none
def DX(t:List (List Int))(A:List (List Int))(L:List (List Int))(fd:List (List (List Int))):Nat->Option Ann
 |0=>some (Ann.mk ((Nat)) (fun x=>⟨[(0,.c (.rob [.rows .i64 t,.rows .i64 A,.rows .i64 L,.r3 .i64 fd] 0)),(11,.c (.ro (.rows .i64 L))),(12,.c (.int .i64 ((L.length:Int)))),(13,.c (.int .i64 ((x:Int))))],[]⟩) (fun x=>x<=L.length/\(∀x',x'<x->mi t L x'=true)) (fun x=>L.length-x) (fun x=>fun b_=>match b_ with|2=>some (Ann.mk ((Nat)) (fun y=>⟨[(0,.c (.rob [.rows .i64 t,.rows .i64 A,.rows .i64 L,.r3 .i64 fd] 0)),(11,.c (.ro (.rows .i64 L))),(12,.c (.int .i64 ((L.length:Int)))),(13,.c (.int .i64 ((x:Int)))),(3,.c (.int .i64 ((x:Int)))),(4,.c (.ro (.ints .i64 ((L.getD x []))))),(21,.c (.ro (.rows .i64 L))),(22,.c (.int .i64 ((L.length:Int)))),(23,.c (.int .i64 ((y:Int))))],[]⟩) (fun y=>y<=L.length/\x<L.length/\(∀y',y'<y->jg t L x y'=true)) (fun y=>L.length-y) (fun _=>ar))|_=>none))
 |_=>none
def DY:List (Nat×Ctr):=[(92,⟨[],xh⟩),(88,⟨[],xj⟩)]
def wv(t:List (List Int))(A:List (List Int))(L:List (List Int))(fd:List (List (List Int))):Prop :=
 ((∃x0:Nat,(x0<=L.length/\∀(x':Nat),x'<x0->mi t L x'=true)/\[FC.rows IntKind.i64 t,FC.rows IntKind.i64 A,FC.rows IntKind.i64 L,FC.r3 IntKind.i64 fd]=[FC.rows IntKind.i64 t,FC.rows IntKind.i64 A,FC.rows IntKind.i64 L,FC.r3 IntKind.i64 fd]/\(0:Nat)=(0:Nat)/\L=L/\(L.length:Int)=(L.length:Int)/\(0:Int)=(x0:Int))/\(∀x1:Nat,((x1<=L.length/\∀(x':Nat),x'<x1->mi t L x'=true)->(af (decide ((x1:Int)<(L.length:Int))) (ab (x1:Int) L.length/\((∃x2:Nat,(x2<=L.length/\x1<L.length/\∀(y':Nat),y'<x2->jg t L x1 y'=true)/\[FC.rows IntKind.i64 t,FC.rows IntKind.i64 A,FC.rows IntKind.i64 L,FC.r3 IntKind.i64 fd]=[FC.rows IntKind.i64 t,FC.rows IntKind.i64 A,FC.rows IntKind.i64 L,FC.r3 IntKind.i64 fd]/\(0:Nat)=(0:Nat)/\L=L/\(L.length:Int)=(L.length:Int)/\(x1:Int)=(x1:Int)/\(x1:Int)=(x1:Int)/\L.getD (x1:Int).toNat []=L.getD x1 []/\L=L/\(L.length:Int)=(L.length:Int)/\(0:Int)=(x2:Int))/\(∀x3:Nat,((x3<=L.length/\x1<L.length/\∀(y':Nat),y'<x3->jg t L x1 y'=true)->(af (decide ((x3:Int)<(L.length:Int))) (ab (x3:Int) L.length/\(ab (x1:Int) t.length/\(ab (x3:Int) (L.getD x1 []).length/\((ab ((List.getD L x1 []).getD (x3:Int).toNat (0:Int)) ((t.getD (x1:Int).toNat []).length)) /\
 (af (decide ((List.getD t (x1:Int).toNat []).getD (((List.getD L x1 []).getD (x3:Int).toNat (0:Int)).toNat) (0:Int)<(L.length:Int))) (ab ((List.getD t (x1:Int).toNat []).getD (((List.getD L x1 []).getD (x3:Int).toNat (0:Int)).toNat) (0:Int)) L.length/\(((L.getD (x3:Int).toNat []).length<=(1000:Nat)/\iG (L.getD x1 []).length (L.getD (x3:Int).toNat []))/\True)/\(((L.getD (((List.getD t (x1:Int).toNat []).getD (((List.getD L x1 []).getD (x3:Int).toNat (0:Int)).toNat) (0:Int)).toNat) []).length<=(9223372036854775807:Nat)/\(aU (L.getD (x3:Int).toNat []) (L.getD x1 [])).length<=(9223372036854775807:Nat))/\True)/\af (!decide (L.getD (((List.getD t (x1:Int).toNat []).getD (((List.getD L x1 []).getD (x3:Int).toNat (0:Int)).toNat) (0:Int)).toNat) []=aU (L.getD (x3:Int).toNat []) (L.getD x1 []))) (false=gX t L/\True) (ae ((x3:Int)+(1:Int))/\∃x4:Nat,(x4<=L.length/\x1<L.length/\∀(y':Nat),y'<x4->jg t L x1 y'=true)/\L.length-x4<L.length-x3/\[FC.rows IntKind.i64 t,FC.rows IntKind.i64 A,FC.rows IntKind.i64 L,FC.r3 IntKind.i64 fd]=[FC.rows IntKind.i64 t,FC.rows IntKind.i64 A,FC.rows IntKind.i64 L,FC.r3 IntKind.i64 fd]/\(0:Nat)=(0:Nat)/\L=L/\(L.length:Int)=(L.length:Int)/\(x1:Int)=(x1:Int)/\(x1:Int)=(x1:Int)/\L.getD x1 []=L.getD x1 []/\L=L/\(L.length:Int)=(L.length:Int)/\(x3:Int)+(1:Int)=(x4:Int)))
 ((ae ((x3:Int)+(1:Int)))/\(∃x5:Nat,(((x5<=L.length)/\((x1<L.length)/\(∀(y':Nat),y'<x5->jg t L x1 y'=true)))/\((L.length-x5<L.length-x3)/\(([FC.rows IntKind.i64 t,FC.rows IntKind.i64 A,FC.rows IntKind.i64 L,FC.r3 IntKind.i64 fd]=[FC.rows IntKind.i64 t,FC.rows IntKind.i64 A,FC.rows IntKind.i64 L,FC.r3 IntKind.i64 fd])/\(((0:Nat)=(0:Nat))/\((L=L)/\(((L.length:Int)=(L.length:Int))/\(((x1:Int)=(x1:Int))/\(((x1:Int)=(x1:Int))/\((L.getD x1 []=L.getD x1 [])/\((L=L)/\(((L.length:Int)=(L.length:Int))/\((x3:Int)+(1:Int)=(x5:Int)))))))))))))))))))) ((ae ((x1:Int)+(1:Int)))/\(∃x6:Nat,(((x6<=L.length)/\(∀(x':Nat),x'<x6->mi t L x'=true))/\((L.length-x6<L.length-x1)/\(([FC.rows IntKind.i64 t,FC.rows IntKind.i64 A,FC.rows IntKind.i64 L,FC.r3 IntKind.i64 fd]=[FC.rows IntKind.i64 t,FC.rows IntKind.i64 A,FC.rows IntKind.i64 L,FC.r3 IntKind.i64 fd])/\(((0:Nat)=(0:Nat))/\((L=L)/\(((L.length:Int)=(L.length:Int))/\((x1:Int)+(1:Int)=(x6:Int))))))))))))))) ((true=gX t L)/\True)))))
theorem LZ(t:List (List Int))(A:List (List Int))(L:List (List Int))(fd:List (List (List Int))):aP Tryz.prog (ai DY) aj (DX t A L fd) Tryz.f185 (aF Tryz.f185) [] [.box [.rows .i64 t,.rows .i64 A,.rows .i64 L,.r3 .i64 fd]] (qr t A L fd)=wv t A L fd:=by kernel_rfl
theorem L0(t:List (List Int))(A:List (List Int))(L:List (List Int))(fd:List (List (List Int)))(Yh:(qr t A L fd).pre):wv t A L fd:=by
 simp only[qr,wv,aK,u1,u2,u3,u4,u5,u6,u7,u8,u9,v1,v2,v3,v4,v5,v6,v7,v8,v9,w1,w2,w3,w4,aC,ab,ae,ag,av]at Yh⊢;obtain⟨h1,h2,h3,h4⟩:=Yh;have row:∀z,z<L.length->(L.getD z []).length=t.length/\∀i,i<t.length->0<=(L.getD z []).getD i 0/\(L.getD z []).getD i 0<(t.length:Int):=fun z hz=>h3 _ (bE L [] z hz)
 refine⟨⟨0,⟨by omega,fun x' hx=>by omega⟩,rfl⟩,fun x ⟨hx,hX⟩=>⟨fun hlt=>⟨by omega,⟨0,⟨by omega,by omega,fun y' hy=>by omega⟩,rfl⟩,fun y ⟨hy,hxl,hY⟩=>⟨fun hylt=>?_,fun hyge=>?_⟩⟩,fun hge=>?_⟩⟩
 ·have hyl:y<L.length:=by omega
  obtain⟨r1,r2⟩:=row x hxl;obtain⟨q1,q2⟩:=row y hyl;obtain⟨t1,t2⟩:=h2.2 x (by omega)
  have v:=r2 y (by omega)
  have ht:=t2 ((L.getD x []).getD y 0).toNat (by omega)
  simp only[en]at ht;have hf:jg t L x y=(!decide (((t.getD x []).getD ((L.getD x []).getD y 0).toNat 0).toNat<L.length)||decide (L.getD ((t.getD x []).getD ((L.getD x []).getD y 0).toNat 0).toNat []=aU (L.getD y []) (L.getD x []))):=rfl
  generalize (t.getD x []).getD ((L.getD x []).getD y 0).toNat 0=z at *
  refine⟨by omega,by omega,by omega,by omega,fun hz=>?_,fun hz=>?_⟩
  ·have hzl:z.toNat<L.length:=by omega
   refine⟨⟨by omega,hz⟩,⟨by omega,fun i hi=>by rw[r1];exact q2 i (by omega)⟩,⟨by rw[(row _ hzl).1];omega,by rw[gD];omega⟩,fun hne=>?_,fun he=>⟨by omega,y+1,⟨by omega,hxl,fun y' hy'=>?_⟩,by omega,by omega⟩⟩
   ·rw[decide_eq_true hzl,decide_eq_false hne]at hf
    have hf:jg t L x y=false:=hf
    symm
    rw[<-Bool.not_eq_true];intro hall
    have:=List.all_eq_true.1 (List.all_eq_true.1 hall x (by simpa using hxl)) y (by simpa using hyl)
    rw[hf]at this;cases this
   ·by_cases e:y'=y
    ·subst e;rw[hf,decide_eq_true he];simp
    ·exact hY y' (by omega)
  ·refine⟨by omega,y+1,⟨by omega,hxl,fun y' hy'=>?_⟩,by omega,by omega⟩
   by_cases e:y'=y
   ·subst e;rw[hf,decide_eq_false (by omega)];rfl
   ·exact hY y' (by omega)
 ·refine⟨by omega,x+1,⟨by omega,fun x' hx'=>?_⟩,by omega,by omega⟩
  by_cases e:x'=x
  ·subst e; exact List.all_eq_true.2 fun y hy' => hY y (by have:y<L.length:=by simpa using hy'
                                                           omega)
  ·exact hX x' (by omega)
 ·exact (List.all_eq_true.2 fun x' hx' => hX x' (by have:x'<L.length:=by simpa using hx'
                                                    omega)).symm
theorem L5:Fits Tryz.prog 185 ⟨[],wu⟩:=by
 refine aW (Γ:=ai DY) (az Nl (az No aJ)) Tryz.func185 fun ds p h hp=>?_
 unfold wu at h;split at h
 ·cases h
  exact⟨aj,DX _ _ _ _ ,by rw[LZ];exact L0 _ _ _ _  hp⟩
 ·cases h
def qt(x:Int)(y:Int)(t:List (List Int))(A:List (List Int))(L:List (List Int))(fd:List (List (List Int))):Post:=⟨aT t.length t/\iH t.length L/\0<=x/\x<(t.length:Int)/\x<(L.length:Int)/\0<=y/\y<(t.length:Int),.c (.int .i64 (en t x.toNat (en L x.toNat y.toNat).toNat)),[]⟩
def mj:List AD->Option Post
 | [.c (.int .i64 x),.c (.int .i64 y),.bb [.rows .i64 t,.rows .i64 A,.rows .i64 L,.r3 .i64 fd]]=>some (qt x y t A L fd)
 |_=>none
def DZ:List (Nat×Ctr):=[]
def wx(x:Int)(y:Int)(t:List (List Int))(A:List (List Int))(L:List (List Int))(fd:List (List (List Int))):Prop :=
 ab x t.length/\ab x L.length/\ab y (L.getD x.toNat []).length/\ab ((List.getD L x.toNat []).getD y.toNat (0:Int)) (t.getD x.toNat []).length/\(List.getD t x.toNat []).getD (((List.getD L x.toNat []).getD y.toNat (0:Int)).toNat) (0:Int)=en t x.toNat (en L x.toNat y.toNat).toNat/\True
theorem L6(x:Int)(y:Int)(t:List (List Int))(A:List (List Int))(L:List (List Int))(fd:List (List (List Int))):aP Tryz.prog (ai DZ) aj ar Tryz.f184 (aF Tryz.f184) [] [.c (.int .i64 x),.c (.int .i64 y),.bb [.rows .i64 t,.rows .i64 A,.rows .i64 L,.r3 .i64 fd]] (qt x y t A L fd)=wx x y t A L fd:=by kernel_rfl
theorem L7(x:Int)(y:Int)(t:List (List Int))(A:List (List Int))(L:List (List Int))(fd:List (List (List Int)))(Yh:(qt x y t A L fd).pre):wx x y t A L fd:=by
 simp only[qt,wx,aK,u1,u2,u3,u4,u5,u6,u7,u8,u9,v1,v2,v3,v4,v5,v6,v7,v8,v9,w1,w2,w3,w4,aC,ab,ae,ag,av]at Yh⊢;obtain⟨h2,h3,x0,x1,x2,y0,y1⟩:=Yh;obtain⟨r1,r2⟩:=h3 _ (bE L [] x.toNat (by omega))
 obtain⟨t1,t2⟩:=h2.2 x.toNat (by omega)
 have v:=r2 y.toNat (by omega)
 exact⟨by omega,by omega,by omega,by omega,rfl⟩
theorem L8:Fits Tryz.prog 184 ⟨[],mj⟩:=by
 refine aW (Γ:=ai DZ) aJ Tryz.func184 fun ds p h hp=>?_
 unfold mj at h;split at h
 ·cases h
  exact⟨aj,ar,by rw[L6];exact L7 _ _ _ _ _ _  hp⟩
 ·cases h
def ef(t L:List (List Int)):List (List Int):=bZ t.length fun x y=>en t x (en L x y).toNat
def dB(t:List (List Int))(A L:List (List Int))(rec:List (List Int)->List (List (List Int))->List (List (List Int)))(fd:List (List (List Int))):Nat->List (List (List Int))
 |0=>fd
 |i+1=>if gX t (L++[A.getD i []])=true then rec (L++[A.getD i []]) (dB t A L rec fd i)else dB t A L rec fd i
def b9(t A:List (List Int)):Nat->List (List Int)->List (List (List Int))->List (List (List Int))
 |0,_,fd=>fd
 |d+1,L,fd=>if L.length=t.length then fd++[ef t L]else dB t A L (b9 t A d) fd A.length
theorem wy{t A L:List (List Int)}{rec:List (List Int)->List (List (List Int))->List (List (List Int))}{fd:List (List (List Int))}{M:Nat}(h:∀i fd',i<A.length->(rec (L++[A.getD i []]) fd').length<=fd'.length+M):∀i,i<=A.length->(dB t A L rec fd i).length<=fd.length+i*M
 |0,_=>by simp[dB]
 |i+1,hi=>by
  have:=wy (t:=t) (fd:=fd) h i (by omega)
  have e:(i+1)*M=i*M+M:=Nat.succ_mul i M
  rw[dB];split
  ·have:=h i (dB t A L rec fd i) (by omega)
   omega
  ·omega
theorem wz{t A:List (List Int)}(hA:A.length<=49):∀(d:Nat) (L:List (List Int)) (fd:List (List (List Int))),L.length<=t.length->(b9 t A d L fd).length<=fd.length+49 ^ (t.length-L.length)
 |0,L,fd,_=>by simp[b9]
 |d+1,L,fd,h=>by
  rw[b9];split
  ·rename_i e
   rw[e];simp
  ·rename_i e
   have h1:=wy (t:=t) (A:=A) (L:=L) (rec:=b9 t A d) (fd:=fd) (M:=49 ^ (t.length-(L.length+1))) (fun i fd' hi=>by
    have:=wz (t:=t) hA d (L++[A.getD i []]) fd' (by simp;omega)
    simpa using this) A.length (Nat.le_refl _)
   have h2:49 ^ (t.length-L.length)=49*49 ^ (t.length-(L.length+1)):=by
    rw[show t.length-L.length=(t.length-(L.length+1))+1 by omega,Nat.pow_succ,Nat.mul_comm]
   have h3:A.length*49 ^ (t.length-(L.length+1))<=49*49 ^ (t.length-(L.length+1)):=Nat.mul_le_mul_right _ hA
   omega
def D0(d:Nat)(t:List (List Int))(A:List (List Int))(L:List (List Int))(fd:List (List (List Int))):SV:=.tup []
def D1(d:Nat)(t:List (List Int))(A:List (List Int))(L:List (List Int))(fd:List (List (List Int))):List MA:=[.box [.c (.rows .i64 t),.c (.rows .i64 A),.ob (.lst 0 62 (.rows .i64 L)),.ob (.tr 0 [22,62,2] (.r3 .i64 ((b9 t A d L fd))))]]
def D2(d:Nat)(t:List (List Int))(A:List (List Int))(L:List (List Int))(fd:List (List (List Int))):List (Nat×Ob):=[]
def ml(d:Nat)(t:List (List Int))(A:List (List Int))(L:List (List Int))(fd:List (List (List Int))):Post:=⟨t.length<=7/\aT t.length t/\iH t.length A/\iH t.length L/\A.length<=49/\L.length<=t.length/\t.length<d+L.length/\fd.length+49 ^ (t.length-L.length)<=1099511627776,.st (D0 d t A L fd) (D2 d t A L fd) (D1 d t A L fd),[]⟩
def mm(d:Nat):List AD->Option Post
 | [.ma (.box [.c (.rows .i64 t),.c (.rows .i64 A),.ob (.lst 0 62 (.rows .i64 L)),.ob (.tr 0 [22,62,2] (.r3 .i64 fd))])]=>some (ml d t A L fd)
 |_=>none
def D3(d:Nat)(t:List (List Int))(A:List (List Int))(L:List (List Int))(fd:List (List (List Int))):Nat->Option Ann
 |0=>some (Ann.mk ((Nat)) (fun i=>⟨[(1,.c (.ptr 500 0)),(2,.c (.int .i64 ((L.length:Int)))),(32,.c (.ro (.rows .i64 A))),(33,.c (.int .i64 ((A.length:Int)))),(34,.c (.int .i64 ((i:Int))))],[(500,some (.box [.ptr 7000 0])),(7000,some (.box [.ro (.rows .i64 t),.ro (.rows .i64 A),.own 7003,.own 7004])),(7003,some (.lst 0 62 (.rows .i64 L))),(7004,some (.tr 0 [22,62,2] (.r3 .i64 (dB t A L (b9 t A (d-1)) fd i))))]⟩) (fun i=>i<=A.length/\L.length≠t.length) (fun i=>A.length-i) (fun _=>ar))
 |_=>none
def D4(t:Nat):Bool:=[2000025,4000058].contains t
def D5(d:Nat):List (Nat×Ctr):=[(185,⟨[],wu⟩),(184,⟨[],mj⟩),(124,⟨[],sC⟩),(133,⟨[(0,93),(0,93)],mm d⟩)]
def gB(A:List (List Int))(L:List (List Int))(x0:Nat):=(L++A.getD (↑x0:Int).toNat []::([]:List (List Int)))
def wA(d:Nat)(t:List (List Int))(A:List (List Int))(L:List (List Int))(fd:List (List (List Int))):Prop :=
 (af ((↑(FC.len (FC.rows IntKind.i64 L)):Int) == (t.length:Int)) ((((0:Int)<=(↑(FC.len (FC.rows IntKind.i64 L)):Int)/\(↑(FC.len (FC.rows IntKind.i64 L)):Int)<=(144:Int)/\∀(x y:Int),(0:Int)<=x->x<(↑(FC.len (FC.rows IntKind.i64 L)):Int)->(0:Int)<=y->y<(↑(FC.len (FC.rows IntKind.i64 L)):Int)->jZ (mj [AD.c (FC.int IntKind.i64 x),AD.c (FC.int IntKind.i64 y),AD.bb [FC.rows IntKind.i64 t,FC.rows IntKind.i64 A,FC.rows IntKind.i64 L,FC.r3 IntKind.i64 fd]]))/\True)/\ag (FC.len (FC.r3 IntKind.i64 fd)+FC.len (FC.r3 IntKind.i64 ((bZ ((↑(FC.len (FC.rows IntKind.i64 L)):Int).toNat) fun(x y:Nat)=>jY (mj [AD.c (FC.int IntKind.i64 (x:Int)),AD.c (FC.int IntKind.i64 (y:Int)),AD.bb [FC.rows IntKind.i64 t,FC.rows IntKind.i64 A,FC.rows IntKind.i64 L,FC.r3 IntKind.i64 fd]]))::([]:List (List (List Int))))))/\t=t/\A=A/\L=L/\fd++(bZ ((↑(FC.len (FC.rows IntKind.i64 L)):Int).toNat) fun(x y:Nat)=>jY (mj [AD.c (FC.int IntKind.i64 (x:Int)),AD.c (FC.int IntKind.i64 (y:Int)),AD.bb [FC.rows IntKind.i64 t,FC.rows IntKind.i64 A,FC.rows IntKind.i64 L,FC.r3 IntKind.i64 fd]]))::([]:List (List (List Int)))=b9 t A (d+(1:Nat)) L fd) ((∃x0:Nat,((x0<=A.length/\L.length≠t.length)/\((↑(FC.len (FC.rows IntKind.i64 L)):Int)=(L.length:Int)/\(A=A/\((A.length:Int)=(A.length:Int)/\((0:Int)=(x0:Int)/\(t=t/\(A=A/\((L=L) /\
 (fd=dB t A L (b9 t A (d+(1:Nat)-(1:Nat))) fd x0))))))))))/\(∀x1:Nat,(((x1<=A.length)/\(L.length≠t.length))->(af (decide ((x1:Int)<(A.length:Int))) ((ab (x1:Int) A.length)/\((ag (FC.len (FC.rows IntKind.i64 L)+FC.len (FC.rows IntKind.i64 (A.getD (x1:Int).toNat []::([]:List (List Int))))))/\((((t.length<=(7:Nat))/\((aT t.length t)/\((iH t.length (gB A L x1))/\((gB A L x1).length<=t.length))))/\True)/\(af (gX t (L++A.getD (x1:Int).toNat []::([]:List (List Int)))) (((t.length<=(7:Nat))/\((aT t.length t)/\((iH t.length A)/\((iH t.length (gB A L x1))/\((A.length<=(49:Nat))/\(((gB A L x1).length<=t.length)/\((t.length<d+(gB A L x1).length)/\((dB t A L (b9 t A (d+(1:Nat)-(1:Nat))) fd x1).length+(49:Nat) ^ (t.length-(gB A L x1).length)<=(1099511627776:Nat)))))))))/\((((0:Int)<=(L.length:Int))/\((L.length:Int)<=(↑((gB A L x1).length):Int)))/\((ae ((x1:Int)+(1:Int)))/\(∃x2:Nat,(((x2<=A.length)/\(L.length≠t.length))/\((A.length-x2<A.length-x1)/\(((L.length:Int)=(L.length:Int))/\((A=A)/\(((A.length:Int)=(A.length:Int))/\(((x1:Int)+(1:Int)=(x2:Int))/\((t=t)/\((A=A)/\((List.take ((L.length:Int).toNat) (gB A L x1)=L)/\(b9 t A d (gB A L x1) (dB t A L (b9 t A (d+(1:Nat)-(1:Nat))) fd x1)=dB t A L (b9 t A (d+(1:Nat)-(1:Nat))) fd x2)))))))))))))) ((((0:Int)<=(L.length:Int)) /\
 ((L.length:Int)<=(↑((gB A L x1).length):Int)))/\((ae ((x1:Int)+(1:Int)))/\(∃x3:Nat,(((x3<=A.length)/\(L.length≠t.length))/\((A.length-x3<A.length-x1)/\(((L.length:Int)=(L.length:Int))/\((A=A)/\(((A.length:Int)=(A.length:Int))/\(((x1:Int)+(1:Int)=(x3:Int))/\((t=t)/\((A=A)/\((List.take ((L.length:Int).toNat) (gB A L x1)=L)/\(dB t A L (b9 t A (d+(1:Nat)-(1:Nat))) fd x1=dB t A L (b9 t A (d+(1:Nat)-(1:Nat))) fd x3))))))))))))))))) ((t=t)/\((A=A)/\((L=L)/\(dB t A L (b9 t A (d+(1:Nat)-(1:Nat))) fd x1=b9 t A (d+(1:Nat)) L fd)))))))))
theorem L9(d:Nat)(t:List (List Int))(A:List (List Int))(L:List (List Int))(fd:List (List (List Int))):kC Tryz.prog (ai (D5 d)) D4 (D3 (d+1) t A L fd) Tryz.f133 (aF Tryz.f133) [.box [.c (.rows .i64 t),.c (.rows .i64 A),.ob (.lst 0 62 (.rows .i64 L)),.ob (.tr 0 [22,62,2] (.r3 .i64 fd))]] (D0 (d+1) t A L fd) (gq 0 (D1 (d+1) t A L fd)++gN (D2 (d+1) t A L fd))=wA d t A L fd:=by kernel_rfl
theorem Ma(d:Nat)(t:List (List Int))(A:List (List Int))(L:List (List Int))(fd:List (List (List Int)))(Yh:(ml (d+1) t A L fd).pre):wA d t A L fd:=by
 simp only[ml,wA,gB,aK,u1,u2,u3,u4,u5,u6,u7,u8,u9,v1,v2,v3,v4,v5,v6,v7,v8,v9,w1,w2,w3,w4,aC,ab,ae,ag,av]at Yh⊢;obtain⟨h1,h2,h3,h4,h5,h6,h7,h8⟩:=Yh;simp only[FC.len,Nat.add_sub_cancel];refine⟨fun e=>⟨⟨by omega,by omega,fun x y x0 x1 y0 y1=>⟨h2,h4,x0,by omega,x1,y0,by omega⟩⟩,?_,?_⟩,fun ne=>?_⟩
 ·have:t.length-L.length=0:=by omega
  rw[this]at h8
  simpa using h8
 ·have e:L.length=t.length:=by omega
  rw[b9,if_pos e]
  congr 2
  rw[ef,e];rfl
 ·have ne:L.length≠t.length:=by omega
  refine⟨⟨0,⟨Nat.zero_le _,ne⟩,by trivial,by trivial,by trivial⟩,fun i ⟨hi,_⟩=>⟨fun hlt=>?_,fun hge=>?_⟩⟩
  ·have hil:i<A.length:=by omega
   have hL:iH t.length (L++[A.getD i []]):=fun r hr=>by
    rcases List.mem_append.1 hr with hr|hr
    ·exact h4 r hr
    ·rw[List.mem_singleton]at hr
     subst hr;exact h3 _ (bE A [] i hil)
   have hM:=wy (t:=t) (A:=A) (L:=L) (rec:=b9 t A d) (fd:=fd) (M:=49 ^ (t.length-(L.length+1))) (fun k fd' hk=>by
    have:=wz (t:=t) h5 d (L++[A.getD k []]) fd' (by simp;omega)
    simpa using this) i hi
   have h9:49 ^ (t.length-L.length)=49*49 ^ (t.length-(L.length+1)):=by
    rw[show t.length-L.length=(t.length-(L.length+1))+1 by omega,Nat.pow_succ,Nat.mul_comm]
   have h10:(i+1)*49 ^ (t.length-(L.length+1))<=49*49 ^ (t.length-(L.length+1)):=Nat.mul_le_mul_right _ (by omega)
   have h11:(i+1)*49 ^ (t.length-(L.length+1))=i*49 ^ (t.length-(L.length+1))+49 ^ (t.length-(L.length+1)):=Nat.succ_mul _ _
   have tk:List.take L.length (L++[A.getD i []])=L:=by simp
   refine⟨⟨by omega,hlt⟩,by simp only[List.length_singleton];omega,⟨h1,h2,hL,by omega⟩,fun hf=>⟨⟨h1,h2,h3,hL,h5,by omega,by omega,by rw[Nat.zero_add];omega⟩,⟨by omega,by omega⟩,by omega,i+1,⟨by omega,ne⟩,by omega,by omega,tk,?_⟩,fun hf=>⟨⟨by omega,by omega⟩,by omega,i+1,⟨by omega,ne⟩,by omega,by omega,tk,?_⟩⟩
   ·show _=dB t A L (b9 t A d) fd (i+1)
    rw[dB,if_pos hf]
   ·show _=dB t A L (b9 t A d) fd (i+1)
    rw[dB,if_neg (by rw[hf];simp)]
  ·have:i=A.length:=by omega
   rw[this]
   show _=b9 t A (d+1) L fd
   rw[b9,if_neg ne]
theorem Mb(t:List (List Int))(A:List (List Int))(L:List (List Int))(fd:List (List (List Int)))(h:(ml 0 t A L fd).pre):False:=by
 simp only[ml]at h;omega
theorem Mc(d:Nat):Fits Tryz.prog 133 ⟨[(0,93),(0,93)],mm d⟩:=by
 induction d with
 |zero =>
  refine Cy ⟨Tryz.f133,Tryz.func133,by kernel_rfl,by kernel_rfl⟩ fun ds p h hp=>?_
  unfold mm at h;split at h
  ·cases h
   exact Mb _ _ _ _  hp
  ·cases h
 |succ d ih =>
  refine nH (Γ:=ai (D5 d)) (az L5 (az L8 (az Ho (az ih aJ)))) Tryz.func133 (by kernel_rfl) (by kernel_rfl) (fun ads p h=>?_) fun mas q sv ex outs h hq=>?_
  ·unfold mm at h
   split at h
   ·cases h;rfl
   ·cases h
  ·unfold mm at h
   split at h
   ·rename_i heq
    have heq:=l7 (l:=[_]) heq
    subst heq;unfold ml at h;cases h;exact⟨D4,D3 _ _ _ _ _ ,by rw[L9];exact Ma _ _ _ _ _  hq⟩
   ·cases h
end Go.Sx
