/- CrcG -/
import Derived.Test.YtkmldclpaniclaaGreatEqt
import Derived.Test.YtkmldclpaniclaaGreatTable
set_option linter.unusedSimpArgs false
set_option linter.unusedVariables false
set_option linter.defProp false
open Go Go.Proofs
namespace Go.Sx
def jY(t L:D2)(x y:Nat):Bool:=!decide ((en t x (en L x y).toNat).toNat<L.length)||decide (L.getD (en t x (en L x y).toNat).toNat []=aE (L.getD y []) (L.getD x []))
def nK(t L:D2)(x:Nat):Bool:=(List.range L.length).all (jY t L x)
def iP(t L:D2):Bool:=(List.range L.length).all (nK t L)
def jw(n:Nat)(L:D2):Prop:=∀r∈L,r.length=n/\∀i,i<n->0<=r.getD i 0/\r.getD i 0<(n:Int)
def sJ(t:D2)(A:D2)(L:D2)(fd:D3):Post:=⟨t.length<=7/\aA t.length t/\jw t.length L/\L.length<=t.length,.c (.bool (iP t L)),[]⟩
def zf:List AD->Option Post
 | [.box [.rows .i64 t,.rows .i64 A,.rows .i64 L,.r3 .i64 fd]]=>some (sJ t A L fd)
 |_=>none
def Ku(t:D2)(A:D2)(L:D2)(fd:D3):Nat->Option Ann
 |0=>T' (fun x=>⟨⟨[(0,.c (.rob [.rows .i64 t,.rows .i64 A,.rows .i64 L,.r3 .i64 fd] 0)),(11,G' L),(12,A' L.length),(13,A' x)],[]⟩,(x<=L.length/\(∀x',x'<x->nK t L x'=true)),L.length-x⟩) (fun x b_=>match b_ with|2=>Q' fun y=>⟨⟨[(0,.c (.rob [.rows .i64 t,.rows .i64 A,.rows .i64 L,.r3 .i64 fd] 0)),(11,G' L),(12,A' L.length),(13,A' x),(3,A' x),(4,D' (L.getD x [])),(21,G' L),(22,A' L.length),(23,A' y)],[]⟩,(y<=L.length/\x<L.length/\(∀y',y'<y->jY t L x y'=true)),L.length-y⟩|_=>none)
 |_=>none
def Kv:List (Nat×Ctr):=[(92,⟨[],ta⟩),(88,⟨[],tg⟩)]
def zg(t:D2)(A:D2)(L:D2)(fd:D3):Prop :=
 ((∃x0:Nat,(((x0<=L.length)/\(∀(x':Nat),x'<x0->nK t L x'=true))/\(([FC.rows IntKind.i64 t,FC.rows IntKind.i64 A,FC.rows IntKind.i64 L,FC.r3 IntKind.i64 fd]=[FC.rows IntKind.i64 t,FC.rows IntKind.i64 A,FC.rows IntKind.i64 L,FC.r3 IntKind.i64 fd])/\(((0:Nat)=(0:Nat))/\((L=L)/\(((↑(L.length):Int)=(↑(L.length):Int))/\((0:Int)=(↑x0:Int))))))))/\(∀x1:Nat,(((x1<=L.length)/\(∀(x':Nat),x'<x1->nK t L x'=true))->(ab (decide ((↑x1:Int)<(↑(L.length):Int))) ((ac (↑x1:Int) L.length)/\((∃x2:Nat,(((x2<=L.length)/\((x1<L.length)/\(∀(y':Nat),y'<x2->jY t L x1 y'=true)))/\(([FC.rows IntKind.i64 t,FC.rows IntKind.i64 A,FC.rows IntKind.i64 L,FC.r3 IntKind.i64 fd]=[FC.rows IntKind.i64 t,FC.rows IntKind.i64 A,FC.rows IntKind.i64 L,FC.r3 IntKind.i64 fd])/\(((0:Nat)=(0:Nat))/\((L=L)/\(((↑(L.length):Int)=(↑(L.length):Int))/\(((↑x1:Int)=(↑x1:Int))/\(((↑x1:Int)=(↑x1:Int))/\((L.getD (↑x1:Int).toNat []=L.getD x1 [])/\((L=L)/\(((↑(L.length):Int)=(↑(L.length):Int))/\((0:Int)=(↑x2:Int)))))))))))))/\(∀x3:Nat,(((x3<=L.length)/\((x1<L.length)/\(∀(y':Nat),y'<x3->jY t L x1 y'=true)))->(ab (decide ((↑x3:Int)<(↑(L.length):Int))) ((ac (↑x3:Int) L.length)/\((ac (↑x1:Int) t.length)/\((ac (↑x3:Int) (L.getD x1 []).length)/\((ac ((List.getD L x1 []).getD (↑x3:Int).toNat (0:Int)) ((t.getD (↑x1:Int).toNat []).length)) /\
 (ab (decide ((List.getD t (↑x1:Int).toNat []).getD (((List.getD L x1 []).getD (↑x3:Int).toNat (0:Int)).toNat) (0:Int)<(↑(L.length):Int))) ((ac ((List.getD t (↑x1:Int).toNat []).getD (((List.getD L x1 []).getD (↑x3:Int).toNat (0:Int)).toNat) (0:Int)) L.length)/\(((((L.getD (↑x3:Int).toNat []).length<=(1000:Nat))/\(gv (L.getD x1 []).length (L.getD (↑x3:Int).toNat [])))/\True)/\(((((L.getD (((List.getD t (↑x1:Int).toNat []).getD (((List.getD L x1 []).getD (↑x3:Int).toNat (0:Int)).toNat) (0:Int)).toNat) []).length<=(9223372036854775807:Nat))/\((aE (L.getD (↑x3:Int).toNat []) (L.getD x1 [])).length<=(9223372036854775807:Nat)))/\True)/\(ab (!decide (L.getD (((List.getD t (↑x1:Int).toNat []).getD (((List.getD L x1 []).getD (↑x3:Int).toNat (0:Int)).toNat) (0:Int)).toNat) []=aE (L.getD (↑x3:Int).toNat []) (L.getD x1 []))) ((false=iP t L)/\True) ((af ((↑x3:Int)+(1:Int)))/\(∃x4:Nat,(((x4<=L.length)/\((x1<L.length)/\(∀(y':Nat),y'<x4->jY t L x1 y'=true)))/\((L.length-x4<L.length-x3)/\(([FC.rows IntKind.i64 t,FC.rows IntKind.i64 A,FC.rows IntKind.i64 L,FC.r3 IntKind.i64 fd]=[FC.rows IntKind.i64 t,FC.rows IntKind.i64 A,FC.rows IntKind.i64 L,FC.r3 IntKind.i64 fd])/\(((0:Nat)=(0:Nat))/\((L=L)/\(((↑(L.length):Int)=(↑(L.length):Int))/\(((↑x1:Int)=(↑x1:Int))/\(((↑x1:Int)=(↑x1:Int))/\((L.getD x1 []=L.getD x1 [])/\((L=L)/\(((↑(L.length):Int)=(↑(L.length):Int))/\((↑x3:Int)+(1:Int)=(↑x4:Int)))))))))))))))))))
 ((af ((↑x3:Int)+(1:Int)))/\(∃x5:Nat,(((x5<=L.length)/\((x1<L.length)/\(∀(y':Nat),y'<x5->jY t L x1 y'=true)))/\((L.length-x5<L.length-x3)/\(([FC.rows IntKind.i64 t,FC.rows IntKind.i64 A,FC.rows IntKind.i64 L,FC.r3 IntKind.i64 fd]=[FC.rows IntKind.i64 t,FC.rows IntKind.i64 A,FC.rows IntKind.i64 L,FC.r3 IntKind.i64 fd])/\(((0:Nat)=(0:Nat))/\((L=L)/\(((↑(L.length):Int)=(↑(L.length):Int))/\(((↑x1:Int)=(↑x1:Int))/\(((↑x1:Int)=(↑x1:Int))/\((L.getD x1 []=L.getD x1 [])/\((L=L)/\(((↑(L.length):Int)=(↑(L.length):Int))/\((↑x3:Int)+(1:Int)=(↑x5:Int)))))))))))))))))))) ((af ((↑x1:Int)+(1:Int)))/\(∃x6:Nat,(((x6<=L.length)/\(∀(x':Nat),x'<x6->nK t L x'=true))/\((L.length-x6<L.length-x1)/\(([FC.rows IntKind.i64 t,FC.rows IntKind.i64 A,FC.rows IntKind.i64 L,FC.r3 IntKind.i64 fd]=[FC.rows IntKind.i64 t,FC.rows IntKind.i64 A,FC.rows IntKind.i64 L,FC.r3 IntKind.i64 fd])/\(((0:Nat)=(0:Nat))/\((L=L)/\(((↑(L.length):Int)=(↑(L.length):Int))/\((↑x1:Int)+(1:Int)=(↑x6:Int))))))))))))))) ((true=iP t L)/\True)))))
theorem TO(t:D2)(A:D2)(L:D2)(fd:D3):aM Tryz.prog (ah Kv) aj (Ku t A L fd) Tryz.f185 (aF Tryz.f185) [] [.box [.rows .i64 t,.rows .i64 A,.rows .i64 L,.r3 .i64 fd]] (sJ t A L fd)=zg t A L fd:=by kernel_rfl
theorem TP(t:D2)(A:D2)(L:D2)(fd:D3)(ξ:(sJ t A L fd).pre):zg t A L fd:=by
 simp only[sJ,zg,aJ]at ξ⊢;obtain⟨h1,h2,h3,h4⟩:=ξ;have row:∀z,z<L.length->(L.getD z []).length=t.length/\∀i,i<t.length->0<=(L.getD z []).getD i 0/\(L.getD z []).getD i 0<(t.length:Int):=fun z hz=>h3 _ (bI L [] z hz)
 refine⟨⟨0,⟨by omega,fun x' hx=>by omega⟩,rfl⟩,fun x ⟨hx,hX⟩=>⟨fun ψ=>⟨by omega,⟨0,⟨by omega,by omega,fun y' hy=>by omega⟩,rfl⟩,fun y ⟨hy,hxl,hY⟩=>⟨fun hylt=>?_,fun hyge=>?_⟩⟩,fun hge=>?_⟩⟩
 ·have hyl:y<L.length:=by omega
  obtain⟨r1,r2⟩:=row x hxl;obtain⟨q1,q2⟩:=row y hyl;obtain⟨t1,t2⟩:=h2.2 x (by omega)
  have v:=r2 y (by omega)
  have ht:=t2 ((L.getD x []).getD y 0).toNat (by omega)
  simp only[en]at ht;have hf:jY t L x y=(!decide (((t.getD x []).getD ((L.getD x []).getD y 0).toNat 0).toNat<L.length)||decide (L.getD ((t.getD x []).getD ((L.getD x []).getD y 0).toNat 0).toNat []=aE (L.getD y []) (L.getD x []))):=rfl
  generalize (t.getD x []).getD ((L.getD x []).getD y 0).toNat 0=z at *
  refine⟨by omega,by omega,by omega,by omega,fun hz=>?_,fun hz=>?_⟩
  ·have hzl:z.toNat<L.length:=by omega
   refine⟨⟨by omega,hz⟩,⟨by omega,fun i hi=>by rw[r1];exact q2 i (by omega)⟩,⟨by rw[(row _ hzl).1];omega,by rw[fL];omega⟩,fun hne=>?_,fun he=>⟨by omega,y+1,⟨by omega,hxl,fun y' hy'=>?_⟩,by omega,by omega⟩⟩
   ·rw[Aa hzl,Ae hne]at hf
    have hf:jY t L x y=false:=hf
    symm
    rw[<-Cw];intro hall
    have:=AW.1 (AW.1 hall x (by simpa using hxl)) y (by simpa using hyl)
    rw[hf]at this;cases this
   ·by_cases e:y'=y
    ·subst e;rw[hf,Aa he];simp
    ·exact hY y' (by omega)
  ·refine⟨by omega,y+1,⟨by omega,hxl,fun y' hy'=>?_⟩,by omega,by omega⟩
   by_cases e:y'=y
   ·subst e;rw[hf,Ae (by omega)];rfl
   ·exact hY y' (by omega)
 ·refine⟨by omega,x+1,⟨by omega,fun x' hx'=>?_⟩,by omega,by omega⟩
  by_cases e:x'=x
  ·subst e; exact List.all_eq_true.2 fun y hy' => hY y (by have:y<L.length:=by simpa using hy'
                                                           omega)
  ·exact hX x' (by omega)
 ·exact (List.all_eq_true.2 fun x' hx' => hX x' (by have:x'<L.length:=by simpa using hx'
                                                    omega)).symm
theorem TQ:Fits Tryz.prog 185 ⟨[],zf⟩:=by
 refine aU (Γ:=ah Kv) (aw Lj (aw Lm aI)) Tryz.func185 fun ds p h hp=>?_
 unfold zf at h;split at h
 ·cases h
  exact⟨aj,Ku _ _ _ _ ,by rw[TO];exact TP _ _ _ _  hp⟩
 ·cases h
def nL:List AD->Option Post
 | [.c (.int .i64 x),.c (.int .i64 y),.bb [.rows .i64 t,.rows .i64 A,.rows .i64 L,.r3 .i64 fd]]=>some ⟨aA t.length t/\jw t.length L/\0<=x/\x<(t.length:Int)/\x<(L.length:Int)/\0<=y/\y<(t.length:Int),.c (.int .i64 (en t x.toNat (en L x.toNat y.toNat).toNat)),[]⟩
 |_=>none
theorem TV:Fits Tryz.prog 184 ⟨[],nL⟩:=by
 refine ffv (Γ:=ah []) aI Tryz.func184 fun ds p h ξ=>?_
 unfold nL at h;split at h<;>cases h
 rename_i x y t A L fd
 refine⟨aj,ar,ac x t.length/\ac x L.length/\ac y (L.getD x.toNat []).length/\ac ((List.getD L x.toNat []).getD y.toNat (0:Int)) (t.getD x.toNat []).length/\(List.getD t x.toNat []).getD (((List.getD L x.toNat []).getD y.toNat (0:Int)).toNat) (0:Int)=en t x.toNat (en L x.toNat y.toNat).toNat/\True,by kernel_rfl,?_⟩
 simp only[aJ]at ξ⊢;obtain⟨h2,h3,x0,x1,x2,y0,y1⟩:=ξ;obtain⟨r1,r2⟩:=h3 _ (bI L [] x.toNat (by omega))
 obtain⟨t1,t2⟩:=h2.2 x.toNat (by omega)
 have v:=r2 y.toNat (by omega)
 exact⟨by omega,by omega,by omega,by omega,rfl⟩
def dM(t L:D2):D2:=b9 t.length fun x y=>en t x (en L x y).toNat
def dS(t:D2)(A L:D2)(rec:D2->D3->D3)(fd:D3):Nat->D3
 |0=>fd
 |i+1=>if iP t (L++[A.getD i []])=true then rec (L++[A.getD i []]) (dS t A L rec fd i)else dS t A L rec fd i
def cB(t A:D2):Nat->D2->D3->D3
 |0,_,fd=>fd
 |d+1,L,fd=>if L.length=t.length then fd++[dM t L]else dS t A L (cB t A d) fd A.length
theorem zi{t A L:D2}{rec:D2->D3->D3}{fd:D3}{M:Nat}(h:∀i fd',i<A.length->(rec (L++[A.getD i []]) fd').length<=fd'.length+M):∀i,i<=A.length->(dS t A L rec fd i).length<=fd.length+i*M
 |0,_=>by simp[dS]
 |i+1,hi=>by
  have:=zi (t:=t) (fd:=fd) h i (by omega)
  have e:(i+1)*M=i*M+M:=Cy i M
  rw[dS];split
  ·have:=h i (dS t A L rec fd i) (by omega)
   omega
  ·omega
theorem zj{t A:D2}(hA:A.length<=49):∀(d:Nat) (L:D2) (fd:D3),L.length<=t.length->(cB t A d L fd).length<=fd.length+49 ^ (t.length-L.length)
 |0,L,fd,_=>by simp[cB]
 |d+1,L,fd,h=>by
  rw[cB];split
  ·rename_i e
   rw[e];simp
  ·rename_i e
   have h1:=zi (t:=t) (A:=A) (L:=L) (rec:=cB t A d) (fd:=fd) (M:=49 ^ (t.length-(L.length+1))) (fun i fd' hi=>by
    have:=zj (t:=t) hA d (L++[A.getD i []]) fd' (by simp;omega)
    simpa using this) A.length (AE _)
   have h2:49 ^ (t.length-L.length)=49*49 ^ (t.length-(L.length+1)):=by
    rw[show t.length-L.length=(t.length-(L.length+1))+1 by omega,CJ,CK]
   have h3:A.length*49 ^ (t.length-(L.length+1))<=49*49 ^ (t.length-(L.length+1)):=Br _ hA
   omega
def Kx(d:Nat)(t:D2)(A:D2)(L:D2)(fd:D3):SV:=.tup []
def Ky(d:Nat)(t:D2)(A:D2)(L:D2)(fd:D3):List MA:=[.box [.c (.rows .i64 t),.c (.rows .i64 A),.ob (.lst 0 62 (.rows .i64 L)),.ob (.tr 0 [22,62,2] (.r3 .i64 ((cB t A d L fd))))]]
def Kz(d:Nat)(t:D2)(A:D2)(L:D2)(fd:D3):List (Nat×Ob):=[]
def nM(d:Nat)(t:D2)(A:D2)(L:D2)(fd:D3):Post:=⟨t.length<=7/\aA t.length t/\jw t.length A/\jw t.length L/\A.length<=49/\L.length<=t.length/\t.length<d+L.length/\fd.length+49 ^ (t.length-L.length)<=1099511627776,.st (Kx d t A L fd) (Kz d t A L fd) (Ky d t A L fd),[]⟩
def nN(d:Nat):List AD->Option Post
 | [.ma (.box [.c (.rows .i64 t),.c (.rows .i64 A),.ob (.lst 0 62 (.rows .i64 L)),.ob (.tr 0 [22,62,2] (.r3 .i64 fd))])]=>some (nM d t A L fd)
 |_=>none
def KA(d:Nat)(t:D2)(A:D2)(L:D2)(fd:D3):Nat->Option Ann
 |0=>Q' fun i=>⟨⟨[(1,M' 500),(2,A' L.length),(32,G' A),(33,A' A.length),(34,A' i)],[(500,P' [.ptr 7000 0]),(7000,P' [.ro (.rows .i64 t),.ro (.rows .i64 A),.own 7003,.own 7004]),(7003,some (.lst 0 62 (.rows .i64 L))),(7004,some (.tr 0 [22,62,2] (.r3 .i64 (dS t A L (cB t A (d-1)) fd i))))]⟩,i<=A.length/\L.length≠t.length,A.length-i⟩
 |_=>none
def KB(t:Nat):Bool:=[2000025,4000058].contains t
def KC(d:Nat):List (Nat×Ctr):=[(185,⟨[],zf⟩),(184,⟨[],nL⟩),(124,⟨[],xd⟩),(133,⟨[(0,93),(0,93)],nN d⟩)]
def ig(A:D2)(L:D2)(x0:Nat):=(L++A.getD (↑x0:Int).toNat []::([]:D2))
def zk(d:Nat)(t:D2)(A:D2)(L:D2)(fd:D3):Prop :=
 ab ((↑(FC.len (FC.rows IntKind.i64 L)):Int) == (t.length:Int)) ((((0:Int)<=(↑(FC.len (FC.rows IntKind.i64 L)):Int)/\(↑(FC.len (FC.rows IntKind.i64 L)):Int)<=(144:Int)/\∀(x y:Int),(0:Int)<=x->x<(↑(FC.len (FC.rows IntKind.i64 L)):Int)->(0:Int)<=y->y<(↑(FC.len (FC.rows IntKind.i64 L)):Int)->lz (nL [AD.c (FC.int IntKind.i64 x),AD.c (FC.int IntKind.i64 y),AD.bb [FC.rows IntKind.i64 t,FC.rows IntKind.i64 A,FC.rows IntKind.i64 L,FC.r3 IntKind.i64 fd]]))/\True)/\am (FC.len (FC.r3 IntKind.i64 fd)+FC.len (FC.r3 IntKind.i64 ((b9 ((↑(FC.len (FC.rows IntKind.i64 L)):Int).toNat) fun(x y:Nat)=>lw (nL [AD.c (FC.int IntKind.i64 (x:Int)),AD.c (FC.int IntKind.i64 (y:Int)),AD.bb [FC.rows IntKind.i64 t,FC.rows IntKind.i64 A,FC.rows IntKind.i64 L,FC.r3 IntKind.i64 fd]]))::([]:D3))))/\t=t/\A=A/\L=L/\fd++(b9 ((↑(FC.len (FC.rows IntKind.i64 L)):Int).toNat) fun(x y:Nat)=>lw (nL [AD.c (FC.int IntKind.i64 (x:Int)),AD.c (FC.int IntKind.i64 (y:Int)),AD.bb [FC.rows IntKind.i64 t,FC.rows IntKind.i64 A,FC.rows IntKind.i64 L,FC.r3 IntKind.i64 fd]]))::([]:D3)=cB t A (d+(1:Nat)) L fd) ((∃x0:Nat,(x0<=A.length/\L.length≠t.length)/\(↑(FC.len (FC.rows IntKind.i64 L)):Int)=(L.length:Int)/\A=A/\(A.length:Int)=(A.length:Int)/\(0:Int)=(x0:Int)/\t=t/\A=A/\L=L/\fd=dS t A L (cB t A (d+(1:Nat)-(1:Nat))) fd x0)/\∀x1:Nat,x1<=A.length/\L.length≠t.length->ab (decide ((x1:Int)<(A.length:Int))) (ac (x1:Int) A.length/\am (FC.len (FC.rows IntKind.i64 L)+FC.len (FC.rows IntKind.i64 (A.getD (x1:Int).toNat []::([]:D2))))/\((t.length<=(7:Nat)/\aA t.length t/\jw t.length (ig A L x1)/\(ig A L x1).length<=t.length)/\True)/\ab (iP t (L++A.getD (x1:Int).toNat []::([]:D2))) ((t.length<=(7:Nat)/\aA t.length t/\jw t.length A/\jw t.length (ig A L x1)/\A.length<=(49:Nat)/\(ig A L x1).length<=t.length/\t.length<d+(ig A L x1).length/\(dS t A L (cB t A (d+(1:Nat)-(1:Nat))) fd x1).length+(49:Nat) ^ (t.length-(ig A L x1).length)<=(1099511627776:Nat))/\((0:Int)<=(L.length:Int)/\(L.length:Int)<=(↑((ig A L x1).length):Int))/\af ((x1:Int)+(1:Int))/\∃x2:Nat,(x2<=A.length/\L.length≠t.length)/\A.length-x2<A.length-x1/\(L.length:Int)=(L.length:Int)/\A=A/\(A.length:Int)=(A.length:Int)/\(x1:Int)+(1:Int)=(x2:Int)/\t=t/\A=A/\List.take ((L.length:Int).toNat) (ig A L x1)=L/\cB t A d (ig A L x1) (dS t A L (cB t A (d+(1:Nat)-(1:Nat))) fd x1)=dS t A L (cB t A (d+(1:Nat)-(1:Nat))) fd x2) (((0:Int)<=(L.length:Int)/\(L.length:Int)<=(↑((ig A L x1).length):Int))/\af ((x1:Int)+(1:Int))/\∃x3:Nat,(x3<=A.length/\L.length≠t.length)/\A.length-x3<A.length-x1/\(L.length:Int)=(L.length:Int)/\A=A/\(A.length:Int)=(A.length:Int)/\(x1:Int)+(1:Int)=(x3:Int)/\t=t/\A=A/\List.take ((L.length:Int).toNat) (ig A L x1)=L/\dS t A L (cB t A (d+(1:Nat)-(1:Nat))) fd x1=dS t A L (cB t A (d+(1:Nat)-(1:Nat))) fd x3)) (t=t/\A=A/\L=L/\dS t A L (cB t A (d+(1:Nat)-(1:Nat))) fd x1=cB t A (d+(1:Nat)) L fd))
theorem TW(d:Nat)(t:D2)(A:D2)(L:D2)(fd:D3):kN Tryz.prog (ah (KC d)) KB (KA (d+1) t A L fd) Tryz.f133 (aF Tryz.f133) [.box [.c (.rows .i64 t),.c (.rows .i64 A),.ob (.lst 0 62 (.rows .i64 L)),.ob (.tr 0 [22,62,2] (.r3 .i64 fd))]] (Kx (d+1) t A L fd) (gD 0 (Ky (d+1) t A L fd)++g4 (Kz (d+1) t A L fd))=zk d t A L fd:=by kernel_rfl
theorem TX(d:Nat)(t:D2)(A:D2)(L:D2)(fd:D3)(ξ:(nM (d+1) t A L fd).pre):zk d t A L fd:=by
 simp only[nM,zk,ig,aJ]at ξ⊢;obtain⟨h1,h2,h3,h4,h5,h6,h7,h8⟩:=ξ;simp only[FC.len,DP];refine⟨fun e=>⟨⟨by omega,by omega,fun x y x0 x1 y0 y1=>⟨h2,h4,x0,by omega,x1,y0,by omega⟩⟩,?_,?_⟩,fun ne=>?_⟩
 ·have:t.length-L.length=0:=by omega
  rw[this]at h8
  simpa using h8
 ·have e:L.length=t.length:=by omega
  rw[cB,AA e]
  congr 2
  rw[dM,e];rfl
 ·have ne:L.length≠t.length:=by omega
  refine⟨⟨0,⟨AQ _,ne⟩,by trivial,by trivial,by trivial⟩,fun i ⟨hi,_⟩=>⟨fun ψ=>?_,fun hge=>?_⟩⟩
  ·have hil:i<A.length:=by omega
   have hL:jw t.length (L++[A.getD i []]):=fun r hr=>by
    rcases AI.1 hr with hr|hr
    ·exact h4 r hr
    ·rw[As]at hr
     subst hr;exact h3 _ (bI A [] i hil)
   have hM:=zi (t:=t) (A:=A) (L:=L) (rec:=cB t A d) (fd:=fd) (M:=49 ^ (t.length-(L.length+1))) (fun k fd' hk=>by
    have:=zj (t:=t) h5 d (L++[A.getD k []]) fd' (by simp;omega)
    simpa using this) i hi
   have h9:49 ^ (t.length-L.length)=49*49 ^ (t.length-(L.length+1)):=by
    rw[show t.length-L.length=(t.length-(L.length+1))+1 by omega,CJ,CK]
   have h10:(i+1)*49 ^ (t.length-(L.length+1))<=49*49 ^ (t.length-(L.length+1)):=Br _ (by omega)
   have h11:(i+1)*49 ^ (t.length-(L.length+1))=i*49 ^ (t.length-(L.length+1))+49 ^ (t.length-(L.length+1)):=Cy _ _
   have tk:List.take L.length (L++[A.getD i []])=L:=by simp
   refine⟨⟨by omega,ψ⟩,by simp only[Bs];omega,⟨h1,h2,hL,by omega⟩,fun hf=>⟨⟨h1,h2,h3,hL,h5,by omega,by omega,by rw[AJ];omega⟩,⟨by omega,by omega⟩,by omega,i+1,⟨by omega,ne⟩,by omega,by omega,tk,?_⟩,fun hf=>⟨⟨by omega,by omega⟩,by omega,i+1,⟨by omega,ne⟩,by omega,by omega,tk,?_⟩⟩
   ·show _=dS t A L (cB t A d) fd (i+1)
    rw[dS,AA hf]
   ·show _=dS t A L (cB t A d) fd (i+1)
    rw[dS,AB (by rw[hf];simp)]
  ·have:i=A.length:=by omega
   rw[this]
   show _=cB t A (d+1) L fd
   rw[cB,AB ne]
theorem TY(t:D2)(A:D2)(L:D2)(fd:D3)(h:(nM 0 t A L fd).pre):False:=by
 simp only[nM]at h;omega
theorem TZ(d:Nat):Fits Tryz.prog 133 ⟨[(0,93),(0,93)],nN d⟩:=by
 induction d with
 |zero =>
  refine Iq ⟨Tryz.f133,Tryz.func133,by kernel_rfl,by kernel_rfl⟩ fun ds p h hp=>?_
  unfold nN at h;split at h
  ·cases h
   exact TY _ _ _ _  hp
  ·cases h
 |succ d ih =>
  refine nA (Γ:=ah (KC d)) (aw TQ (aw TV (aw Rn (aw ih aI)))) Tryz.func133 (by kernel_rfl) (by kernel_rfl) (fun ads p h=>?_) fun mas q sv ex outs h hq=>?_
  ·unfold nN at h
   split at h
   ·cases h;rfl
   ·cases h
  ·unfold nN at h
   split at h
   ·rename_i heq
    have heq:=lY (l:=[_]) heq
    subst heq;unfold nM at h;cases h;exact⟨KB,KA _ _ _ _ _ ,by rw[TW];exact TX _ _ _ _ _  hq⟩
   ·cases h
end Go.Sx
