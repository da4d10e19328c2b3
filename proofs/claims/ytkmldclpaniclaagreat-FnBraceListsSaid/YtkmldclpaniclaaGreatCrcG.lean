/- CrcG -/
import Derived.Test.YtkmldclpaniclaaGreatEqt
import Derived.Test.YtkmldclpaniclaaGreatTable
set_option linter.unusedSimpArgs false
set_option linter.unusedVariables false
set_option linter.defProp false
open Go Go.Proofs
namespace Go.Sx
def kJ(t L:D7)(x y:Nat):Bool:=!decide ((en t x (en L x y).toNat).toNat<L.length)||decide (L.getD (en t x (en L x y).toNat).toNat []=aR (L.getD y []) (L.getD x []))
def oK(t L:D7)(x:Nat):Bool:=(List.range L.length).all (kJ t L x)
def jh(t L:D7):Bool:=(List.range L.length).all (oK t L)
def jQ(n:Nat)(L:D7):Prop:=∀r∈L,r.length=n/\∀i,i<n->0<=r.getD i 0/\r.getD i 0<(n:Int)
def uF(t:D7)(A:D7)(L:D7)(fd:D8):Post:=⟨t.length<=7/\am t.length t/\jQ t.length L/\L.length<=t.length,.c (.bool (jh t L)),[]⟩
def Fo:List AD->Option Post
 | [.box [.rows .i64 t,.rows .i64 A,.rows .i64 L,.r3 .i64 fd]]=>some (uF t A L fd)
 |_=>none
def Ns(t:D7)(A:D7)(L:D7)(fd:D8):Nat->Option Ann
 |0=>T' (λx=>⟨⟨[(0,.c (.rob [.rows .i64 t,.rows .i64 A,.rows .i64 L,.r3 .i64 fd] 0)),(11,G' L),(12,A' L.length),(13,A' x)],[]⟩,(x<=L.length/\(∀x',x'<x->oK t L x'=true)),L.length-x⟩) (λx b_=>match b_ with|2=>Q' λy=>⟨⟨[(0,.c (.rob [.rows .i64 t,.rows .i64 A,.rows .i64 L,.r3 .i64 fd] 0)),(11,G' L),(12,A' L.length),(13,A' x),(3,A' x),(4,D' (L.getD x [])),(21,G' L),(22,A' L.length),(23,A' y)],[]⟩,(y<=L.length/\x<L.length/\(∀y',y'<y->kJ t L x y'=true)),L.length-y⟩|_=>none)
 |_=>none
def Nt:List (Nat×Ctr):=[(92,⟨[],FY⟩),(88,⟨[],F0⟩)]
def Fp(t:D7)(A:D7)(L:D7)(fd:D8):Prop :=
 ((∃x0:Nat,(((x0<=L.length)/\(∀(x':Nat),x'<x0->oK t L x'=true))/\(([FC.rows IntKind.i64 t,FC.rows IntKind.i64 A,FC.rows IntKind.i64 L,FC.r3 IntKind.i64 fd]=[FC.rows IntKind.i64 t,FC.rows IntKind.i64 A,FC.rows IntKind.i64 L,FC.r3 IntKind.i64 fd])/\(((0:Nat)=(0:Nat))/\((L=L)/\(((↑(L.length):Int)=(↑(L.length):Int))/\((0:Int)=(↑x0:Int))))))))/\(∀x1:Nat,(((x1<=L.length)/\(∀(x':Nat),x'<x1->oK t L x'=true))->(ab (decide ((↑x1:Int)<(↑(L.length):Int))) ((ac (↑x1:Int) L.length)/\((∃x2:Nat,(((x2<=L.length)/\((x1<L.length)/\(∀(y':Nat),y'<x2->kJ t L x1 y'=true)))/\(([FC.rows IntKind.i64 t,FC.rows IntKind.i64 A,FC.rows IntKind.i64 L,FC.r3 IntKind.i64 fd]=[FC.rows IntKind.i64 t,FC.rows IntKind.i64 A,FC.rows IntKind.i64 L,FC.r3 IntKind.i64 fd])/\(((0:Nat)=(0:Nat))/\((L=L)/\(((↑(L.length):Int)=(↑(L.length):Int))/\(((↑x1:Int)=(↑x1:Int))/\(((↑x1:Int)=(↑x1:Int))/\((L.getD (↑x1:Int).toNat []=L.getD x1 [])/\((L=L)/\(((↑(L.length):Int)=(↑(L.length):Int))/\((0:Int)=(↑x2:Int)))))))))))))/\(∀x3:Nat,(((x3<=L.length)/\((x1<L.length)/\(∀(y':Nat),y'<x3->kJ t L x1 y'=true)))->(ab (decide ((↑x3:Int)<(↑(L.length):Int))) ((ac (↑x3:Int) L.length)/\((ac (↑x1:Int) t.length)/\((ac (↑x3:Int) (L.getD x1 []).length)/\((ac ((List.getD L x1 []).getD (↑x3:Int).toNat (0:Int)) ((t.getD (↑x1:Int).toNat []).length)) /\
 (ab (decide ((List.getD t (↑x1:Int).toNat []).getD (((List.getD L x1 []).getD (↑x3:Int).toNat (0:Int)).toNat) (0:Int)<(↑(L.length):Int))) ((ac ((List.getD t (↑x1:Int).toNat []).getD (((List.getD L x1 []).getD (↑x3:Int).toNat (0:Int)).toNat) (0:Int)) L.length)/\(((((L.getD (↑x3:Int).toNat []).length<=(1000:Nat))/\(gN (L.getD x1 []).length (L.getD (↑x3:Int).toNat [])))/\True)/\(((((L.getD (((List.getD t (↑x1:Int).toNat []).getD (((List.getD L x1 []).getD (↑x3:Int).toNat (0:Int)).toNat) (0:Int)).toNat) []).length<=(9223372036854775807:Nat))/\((aR (L.getD (↑x3:Int).toNat []) (L.getD x1 [])).length<=(9223372036854775807:Nat)))/\True)/\(ab (!decide (L.getD (((List.getD t (↑x1:Int).toNat []).getD (((List.getD L x1 []).getD (↑x3:Int).toNat (0:Int)).toNat) (0:Int)).toNat) []=aR (L.getD (↑x3:Int).toNat []) (L.getD x1 []))) ((false=jh t L)/\True) ((ae ((↑x3:Int)+(1:Int)))/\(∃x4:Nat,(((x4<=L.length)/\((x1<L.length)/\(∀(y':Nat),y'<x4->kJ t L x1 y'=true)))/\((L.length-x4<L.length-x3)/\(([FC.rows IntKind.i64 t,FC.rows IntKind.i64 A,FC.rows IntKind.i64 L,FC.r3 IntKind.i64 fd]=[FC.rows IntKind.i64 t,FC.rows IntKind.i64 A,FC.rows IntKind.i64 L,FC.r3 IntKind.i64 fd])/\(((0:Nat)=(0:Nat))/\((L=L)/\(((↑(L.length):Int)=(↑(L.length):Int))/\(((↑x1:Int)=(↑x1:Int))/\(((↑x1:Int)=(↑x1:Int))/\((L.getD x1 []=L.getD x1 [])/\((L=L)/\(((↑(L.length):Int)=(↑(L.length):Int))/\((↑x3:Int)+(1:Int)=(↑x4:Int)))))))))))))))))))
 ((ae ((↑x3:Int)+(1:Int)))/\(∃x5:Nat,(((x5<=L.length)/\((x1<L.length)/\(∀(y':Nat),y'<x5->kJ t L x1 y'=true)))/\((L.length-x5<L.length-x3)/\(([FC.rows IntKind.i64 t,FC.rows IntKind.i64 A,FC.rows IntKind.i64 L,FC.r3 IntKind.i64 fd]=[FC.rows IntKind.i64 t,FC.rows IntKind.i64 A,FC.rows IntKind.i64 L,FC.r3 IntKind.i64 fd])/\(((0:Nat)=(0:Nat))/\((L=L)/\(((↑(L.length):Int)=(↑(L.length):Int))/\(((↑x1:Int)=(↑x1:Int))/\(((↑x1:Int)=(↑x1:Int))/\((L.getD x1 []=L.getD x1 [])/\((L=L)/\(((↑(L.length):Int)=(↑(L.length):Int))/\((↑x3:Int)+(1:Int)=(↑x5:Int)))))))))))))))))))) ((ae ((↑x1:Int)+(1:Int)))/\(∃x6:Nat,(((x6<=L.length)/\(∀(x':Nat),x'<x6->oK t L x'=true))/\((L.length-x6<L.length-x1)/\(([FC.rows IntKind.i64 t,FC.rows IntKind.i64 A,FC.rows IntKind.i64 L,FC.r3 IntKind.i64 fd]=[FC.rows IntKind.i64 t,FC.rows IntKind.i64 A,FC.rows IntKind.i64 L,FC.r3 IntKind.i64 fd])/\(((0:Nat)=(0:Nat))/\((L=L)/\(((↑(L.length):Int)=(↑(L.length):Int))/\((↑x1:Int)+(1:Int)=(↑x6:Int))))))))))))))) ((true=jh t L)/\True)))))
def XH(t:D7)(A:D7)(L:D7)(fd:D8):aP Tryz.prog (ah Nt) aj (Ns t A L fd) Tryz.f185 (aI Tryz.f185) [] [.box [.rows .i64 t,.rows .i64 A,.rows .i64 L,.r3 .i64 fd]] (uF t A L fd)=Fp t A L fd:=by kernel_rfl
def XI(t:D7)(A:D7)(L:D7)(fd:D8)(ξ:(uF t A L fd).pre):Fp t A L fd:=by
 simp only[uF,Fp,aO]at ξ⊢;obtain⟨h1,h2,h3,h4⟩:=ξ;have row:∀z,z<L.length->(L.getD z []).length=t.length/\∀i,i<t.length->0<=(L.getD z []).getD i 0/\(L.getD z []).getD i 0<(t.length:Int):=λz hz=>h3 _ (bN L [] z hz)
 refine⟨⟨0,⟨by omega,λx' hx=>by omega⟩,rfl⟩,λx ⟨hx,hX⟩=>⟨fun ψ=>⟨by omega,⟨0,⟨by omega,by omega,λy' hy=>by omega⟩,rfl⟩,λy ⟨hy,hxl,hY⟩=>⟨λhylt=>?_,λhyge=>?_⟩⟩,λhge=>?_⟩⟩
 ·have hyl:y<L.length:=by omega
  obtain⟨r1,r2⟩:=row x hxl;obtain⟨q1,q2⟩:=row y hyl;obtain⟨t1,t2⟩:=h2.2 x (by omega)
  have v:=r2 y (by omega)
  have ht:=t2 ((L.getD x []).getD y 0).toNat (by omega)
  simp only[en]at ht;have hf:kJ t L x y=(!decide (((t.getD x []).getD ((L.getD x []).getD y 0).toNat 0).toNat<L.length)||decide (L.getD ((t.getD x []).getD ((L.getD x []).getD y 0).toNat 0).toNat []=aR (L.getD y []) (L.getD x []))):=rfl
  generalize (t.getD x []).getD ((L.getD x []).getD y 0).toNat 0=z at *
  refine⟨by omega,by omega,by omega,by omega,λhz=>?_,λhz=>?_⟩
  ·have hzl:z.toNat<L.length:=by omega
   refine⟨⟨by omega,hz⟩,⟨by omega,λi hi=>by rw[r1];exact q2 i (by omega)⟩,⟨by rw[(row _ hzl).1];omega,by rw[iM];omega⟩,λhne=>?_,λhe=>⟨by omega,y+1,⟨by omega,hxl,λy' hy'=>?_⟩,by omega,by omega⟩⟩
   ·rw[Ab hzl,Ad hne]at hf
    have hf:kJ t L x y=false:=hf
    symm
    rw[<-C4];intro hall
    have:=Ac.1 (Ac.1 hall x (by simpa using hxl)) y (by simpa using hyl)
    rw[hf]at this;cases this
   ·by_cases e:y'=y
    ·subst e;rw[hf,Ab he];simp
    ·exact hY y' (by omega)
  ·refine⟨by omega,y+1,⟨by omega,hxl,λy' hy'=>?_⟩,by omega,by omega⟩
   by_cases e:y'=y
   ·subst e;rw[hf,Ad (by omega)];rfl
   ·exact hY y' (by omega)
 ·refine⟨by omega,x+1,⟨by omega,λx' hx'=>?_⟩,by omega,by omega⟩
  by_cases e:x'=x
  ·subst e; exact List.all_eq_true.2 fun y hy' => hY y (by have:y<L.length:=by simpa using hy'
                                                           omega)
  ·exact hX x' (by omega)
 ·exact (List.all_eq_true.2 fun x' hx' => hX x' (by have:x'<L.length:=by simpa using hx'
                                                    omega)).symm
def XJ:Fits Tryz.prog 185 ⟨[],Fo⟩:=by
 refine aQ (Γ:=ah Nt) (aq Ys (aq Yv aN)) Tryz.func185 λds p h hp=>?_
 unfold Fo at h;split at h
 ·cases h
  exact⟨aj,Ns _ _ _ _ ,by rw[XH];exact XI _ _ _ _  hp⟩
 ·cases h
def oL:List AD->Option Post
 | [.c (.int .i64 x),.c (.int .i64 y),.bb [.rows .i64 t,.rows .i64 A,.rows .i64 L,.r3 .i64 fd]]=>some ⟨am t.length t/\jQ t.length L/\0<=x/\x<(t.length:Int)/\x<(L.length:Int)/\0<=y/\y<(t.length:Int),.c (.int .i64 (en t x.toNat (en L x.toNat y.toNat).toNat)),[]⟩
 |_=>none
def XM:Fits Tryz.prog 184 ⟨[],oL⟩:=by
 refine ffv (Γ:=ah []) aN Tryz.func184 λds p h ξ=>?_
 unfold oL at h;split at h<;>cases h
 rename_i x y t A L fd
 refine⟨aj,ar,ac x t.length/\ac x L.length/\ac y (L.getD x.toNat []).length/\ac ((List.getD L x.toNat []).getD y.toNat (0:Int)) (t.getD x.toNat []).length/\(List.getD t x.toNat []).getD (((List.getD L x.toNat []).getD y.toNat (0:Int)).toNat) (0:Int)=en t x.toNat (en L x.toNat y.toNat).toNat/\True,by kernel_rfl,?_⟩
 simp only[aO]at ξ⊢;obtain⟨h2,h3,x0,x1,x2,y0,y1⟩:=ξ;obtain⟨r1,r2⟩:=h3 _ (bN L [] x.toNat (by omega))
 obtain⟨t1,t2⟩:=h2.2 x.toNat (by omega)
 have v:=r2 y.toNat (by omega)
 exact⟨by omega,by omega,by omega,by omega,rfl⟩
def ft(t L:D7):D7:=cb t.length λx y=>en t x (en L x y).toNat
def eh(t:D7)(A L:D7)(rec:D7->D8->D8)(fd:D8):Nat->D8
 |0=>fd
 |i+1=>if jh t (L++[A.getD i []])=true then rec (L++[A.getD i []]) (eh t A L rec fd i)else eh t A L rec fd i
def cR(t A:D7):Nat->D7->D8->D8
 |0,_,fd=>fd
 |d+1,L,fd=>if L.length=t.length then fd++[ft t L]else eh t A L (cR t A d) fd A.length
def Fr{t A L:D7}{rec:D7->D8->D8}{fd:D8}{M:Nat}(h:∀i fd',i<A.length->(rec (L++[A.getD i []]) fd').length<=fd'.length+M):∀i,i<=A.length->(eh t A L rec fd i).length<=fd.length+i*M
 |0,_=>by simp[eh]
 |i+1,hi=>by
  have:=Fr (t:=t) (fd:=fd) h i (by omega)
  have e:(i+1)*M=i*M+M:=Ce i M
  rw[eh];split
  ·have:=h i (eh t A L rec fd i) (by omega)
   omega
  ·omega
def Fs{t A:D7}(hA:A.length<=49):∀(d:Nat) (L:D7) (fd:D8),L.length<=t.length->(cR t A d L fd).length<=fd.length+49 ^ (t.length-L.length)
 |0,L,fd,_=>by simp[cR]
 |d+1,L,fd,h=>by
  rw[cR];split
  ·rename_i e
   rw[e];simp
  ·rename_i e
   have h1:=Fr (t:=t) (A:=A) (L:=L) (rec:=cR t A d) (fd:=fd) (M:=49 ^ (t.length-(L.length+1))) (λi fd' hi=>by
    have:=Fs (t:=t) hA d (L++[A.getD i []]) fd' (by simp;omega)
    simpa using this) A.length (AE _)
   have h2:49 ^ (t.length-L.length)=49*49 ^ (t.length-(L.length+1)):=by
    rw[show t.length-L.length=(t.length-(L.length+1))+1 by omega,B8,B9]
   have h3:A.length*49 ^ (t.length-(L.length+1))<=49*49 ^ (t.length-(L.length+1)):=Bp _ hA
   omega
def Nv(d:Nat)(t:D7)(A:D7)(L:D7)(fd:D8):SV:=.tup []
def Nx(d:Nat)(t:D7)(A:D7)(L:D7)(fd:D8):List MA:=[.box [.c (.rows .i64 t),.c (.rows .i64 A),.ob (.lst 0 62 (.rows .i64 L)),.ob (.tr 0 [22,62,2] (.r3 .i64 ((cR t A d L fd))))]]
def Ny(d:Nat)(t:D7)(A:D7)(L:D7)(fd:D8):List (Nat×Ob):=[]
def oM(d:Nat)(t:D7)(A:D7)(L:D7)(fd:D8):Post:=⟨t.length<=7/\am t.length t/\jQ t.length A/\jQ t.length L/\A.length<=49/\L.length<=t.length/\t.length<d+L.length/\fd.length+49 ^ (t.length-L.length)<=1099511627776,.st (Nv d t A L fd) (Ny d t A L fd) (Nx d t A L fd),[]⟩
def oN(d:Nat):List AD->Option Post
 | [.ma (.box [.c (.rows .i64 t),.c (.rows .i64 A),.ob (.lst 0 62 (.rows .i64 L)),.ob (.tr 0 [22,62,2] (.r3 .i64 fd))])]=>some (oM d t A L fd)
 |_=>none
def Nz(d:Nat)(t:D7)(A:D7)(L:D7)(fd:D8):Nat->Option Ann
 |0=>Q' λi=>⟨⟨[(1,M' 500),(2,A' L.length),(32,G' A),(33,A' A.length),(34,A' i)],[(500,P' [.ptr 7000 0]),(7000,P' [.ro (.rows .i64 t),.ro (.rows .i64 A),.own 7003,.own 7004]),(7003,some (.lst 0 62 (.rows .i64 L))),(7004,some (.tr 0 [22,62,2] (.r3 .i64 (eh t A L (cR t A (d-1)) fd i))))]⟩,i<=A.length/\L.length≠t.length,A.length-i⟩
 |_=>none
def NA(t:Nat):Bool:=[2000025,4000058].contains t
def NB(d:Nat):List (Nat×Ctr):=[(185,⟨[],Fo⟩),(184,⟨[],oL⟩),(124,⟨[],ow⟩),(133,⟨[(0,93),(0,93)],oN d⟩)]
def iJ(A:D7)(L:D7)(x0:Nat):=(L++A.getD (↑x0:Int).toNat []::([]:D7))
def Ft(d:Nat)(t:D7)(A:D7)(L:D7)(fd:D8):Prop :=
 ab ((↑(FC.len (FC.rows IntKind.i64 L)):Int) == (t.length:Int)) ((((0:Int)<=(↑(FC.len (FC.rows IntKind.i64 L)):Int)/\(↑(FC.len (FC.rows IntKind.i64 L)):Int)<=(144:Int)/\∀(x y:Int),(0:Int)<=x->x<(↑(FC.len (FC.rows IntKind.i64 L)):Int)->(0:Int)<=y->y<(↑(FC.len (FC.rows IntKind.i64 L)):Int)->jy (oL [AD.c (FC.int IntKind.i64 x),AD.c (FC.int IntKind.i64 y),AD.bb [FC.rows IntKind.i64 t,FC.rows IntKind.i64 A,FC.rows IntKind.i64 L,FC.r3 IntKind.i64 fd]]))/\True)/\au (FC.len (FC.r3 IntKind.i64 fd)+FC.len (FC.r3 IntKind.i64 ((cb ((↑(FC.len (FC.rows IntKind.i64 L)):Int).toNat) λ(x y:Nat)=>jx (oL [AD.c (FC.int IntKind.i64 (x:Int)),AD.c (FC.int IntKind.i64 (y:Int)),AD.bb [FC.rows IntKind.i64 t,FC.rows IntKind.i64 A,FC.rows IntKind.i64 L,FC.r3 IntKind.i64 fd]]))::([]:D8))))/\t=t/\A=A/\L=L/\fd++(cb ((↑(FC.len (FC.rows IntKind.i64 L)):Int).toNat) λ(x y:Nat)=>jx (oL [AD.c (FC.int IntKind.i64 (x:Int)),AD.c (FC.int IntKind.i64 (y:Int)),AD.bb [FC.rows IntKind.i64 t,FC.rows IntKind.i64 A,FC.rows IntKind.i64 L,FC.r3 IntKind.i64 fd]]))::([]:D8)=cR t A (d+(1:Nat)) L fd) ((∃x0:Nat,(x0<=A.length/\L.length≠t.length)/\(↑(FC.len (FC.rows IntKind.i64 L)):Int)=(L.length:Int)/\A=A/\(A.length:Int)=(A.length:Int)/\(0:Int)=(x0:Int)/\t=t/\A=A/\L=L/\fd=eh t A L (cR t A (d+(1:Nat)-(1:Nat))) fd x0)/\∀x1:Nat,x1<=A.length/\L.length≠t.length->ab (decide ((x1:Int)<(A.length:Int))) (ac (x1:Int) A.length/\au (FC.len (FC.rows IntKind.i64 L)+FC.len (FC.rows IntKind.i64 (A.getD (x1:Int).toNat []::([]:D7))))/\((t.length<=(7:Nat)/\am t.length t/\jQ t.length (iJ A L x1)/\(iJ A L x1).length<=t.length)/\True)/\ab (jh t (L++A.getD (x1:Int).toNat []::([]:D7))) ((t.length<=(7:Nat)/\am t.length t/\jQ t.length A/\jQ t.length (iJ A L x1)/\A.length<=(49:Nat)/\(iJ A L x1).length<=t.length/\t.length<d+(iJ A L x1).length/\(eh t A L (cR t A (d+(1:Nat)-(1:Nat))) fd x1).length+(49:Nat) ^ (t.length-(iJ A L x1).length)<=(1099511627776:Nat))/\((0:Int)<=(L.length:Int)/\(L.length:Int)<=(↑((iJ A L x1).length):Int))/\ae ((x1:Int)+(1:Int))/\∃x2:Nat,(x2<=A.length/\L.length≠t.length)/\A.length-x2<A.length-x1/\(L.length:Int)=(L.length:Int)/\A=A/\(A.length:Int)=(A.length:Int)/\(x1:Int)+(1:Int)=(x2:Int)/\t=t/\A=A/\List.take ((L.length:Int).toNat) (iJ A L x1)=L/\cR t A d (iJ A L x1) (eh t A L (cR t A (d+(1:Nat)-(1:Nat))) fd x1)=eh t A L (cR t A (d+(1:Nat)-(1:Nat))) fd x2) (((0:Int)<=(L.length:Int)/\(L.length:Int)<=(↑((iJ A L x1).length):Int))/\ae ((x1:Int)+(1:Int))/\∃x3:Nat,(x3<=A.length/\L.length≠t.length)/\A.length-x3<A.length-x1/\(L.length:Int)=(L.length:Int)/\A=A/\(A.length:Int)=(A.length:Int)/\(x1:Int)+(1:Int)=(x3:Int)/\t=t/\A=A/\List.take ((L.length:Int).toNat) (iJ A L x1)=L/\eh t A L (cR t A (d+(1:Nat)-(1:Nat))) fd x1=eh t A L (cR t A (d+(1:Nat)-(1:Nat))) fd x3)) (t=t/\A=A/\L=L/\eh t A L (cR t A (d+(1:Nat)-(1:Nat))) fd x1=cR t A (d+(1:Nat)) L fd))
def XN(d:Nat)(t:D7)(A:D7)(L:D7)(fd:D8):mH Tryz.prog (ah (NB d)) NA (Nz (d+1) t A L fd) Tryz.f133 (aI Tryz.f133) [.box [.c (.rows .i64 t),.c (.rows .i64 A),.ob (.lst 0 62 (.rows .i64 L)),.ob (.tr 0 [22,62,2] (.r3 .i64 fd))]] (Nv (d+1) t A L fd) (iv 0 (Nx (d+1) t A L fd)++iU (Ny (d+1) t A L fd))=Ft d t A L fd:=by kernel_rfl
def XO(d:Nat)(t:D7)(A:D7)(L:D7)(fd:D8)(ξ:(oM (d+1) t A L fd).pre):Ft d t A L fd:=by
 simp only[oM,Ft,iJ,aO]at ξ⊢;obtain⟨h1,h2,h3,h4,h5,h6,h7,h8⟩:=ξ;simp only[FC.len,DR];refine⟨λe=>⟨⟨by omega,by omega,λx y x0 x1 y0 y1=>⟨h2,h4,x0,by omega,x1,y0,by omega⟩⟩,?_,?_⟩,λne=>?_⟩
 ·have:t.length-L.length=0:=by omega
  rw[this]at h8
  simpa using h8
 ·have e:L.length=t.length:=by omega
  rw[cR,AA e]
  congr 2
  rw[ft,e];rfl
 ·have ne:L.length≠t.length:=by omega
  refine⟨⟨0,⟨AT _,ne⟩,by trivial,by trivial,by trivial⟩,λi ⟨hi,_⟩=>⟨fun ψ=>?_,λhge=>?_⟩⟩
  ·have hil:i<A.length:=by omega
   have hL:jQ t.length (L++[A.getD i []]):=λr hr=>by
    rcases AH.1 hr with hr|hr
    ·exact h4 r hr
    ·rw[Ar]at hr
     subst hr;exact h3 _ (bN A [] i hil)
   have hM:=Fr (t:=t) (A:=A) (L:=L) (rec:=cR t A d) (fd:=fd) (M:=49 ^ (t.length-(L.length+1))) (λk fd' hk=>by
    have:=Fs (t:=t) h5 d (L++[A.getD k []]) fd' (by simp;omega)
    simpa using this) i hi
   have h9:49 ^ (t.length-L.length)=49*49 ^ (t.length-(L.length+1)):=by
    rw[show t.length-L.length=(t.length-(L.length+1))+1 by omega,B8,B9]
   have h10:(i+1)*49 ^ (t.length-(L.length+1))<=49*49 ^ (t.length-(L.length+1)):=Bp _ (by omega)
   have h11:(i+1)*49 ^ (t.length-(L.length+1))=i*49 ^ (t.length-(L.length+1))+49 ^ (t.length-(L.length+1)):=Ce _ _
   have tk:List.take L.length (L++[A.getD i []])=L:=by simp
   refine⟨⟨by omega,ψ⟩,by simp only[Bh];omega,⟨h1,h2,hL,by omega⟩,λhf=>⟨⟨h1,h2,h3,hL,h5,by omega,by omega,by rw[AI];omega⟩,⟨by omega,by omega⟩,by omega,i+1,⟨by omega,ne⟩,by omega,by omega,tk,?_⟩,λhf=>⟨⟨by omega,by omega⟩,by omega,i+1,⟨by omega,ne⟩,by omega,by omega,tk,?_⟩⟩
   ·show _=eh t A L (cR t A d) fd (i+1)
    rw[eh,AA hf]
   ·show _=eh t A L (cR t A d) fd (i+1)
    rw[eh,AB (by rw[hf];simp)]
  ·have:i=A.length:=by omega
   rw[this]
   show _=cR t A (d+1) L fd
   rw[cR,AB ne]
def XP(t:D7)(A:D7)(L:D7)(fd:D8)(h:(oM 0 t A L fd).pre):False:=by
 simp only[oM]at h;omega
def XQ(d:Nat):Fits Tryz.prog 133 ⟨[(0,93),(0,93)],oN d⟩:=by
 induction d with
 |zero =>
  refine Kt ⟨Tryz.f133,Tryz.func133,by kernel_rfl,by kernel_rfl⟩ λds p h hp=>?_
  unfold oN at h;split at h
  ·cases h
   exact XP _ _ _ _  hp
  ·cases h
 |succ d ih =>
  refine qf (Γ:=ah (NB d)) (aq XJ (aq XM (aq sK (aq ih aN)))) Tryz.func133 (by kernel_rfl) (by kernel_rfl) (λads p h=>?_) λmas q sv ex outs h hq=>?_
  ·unfold oN at h
   split at h
   ·cases h;rfl
   ·cases h
  ·unfold oN at h
   split at h
   ·rename_i heq
    have heq:=oq (l:=[_]) heq
    subst heq;unfold oM at h;cases h;exact⟨NA,Nz _ _ _ _ _ ,by rw[XN];exact XO _ _ _ _ _  hq⟩
   ·cases h
end Go.Sx
