/- SxLaw -/
import Derived.Test.YtkmldclpaniclaaGreatNamB
import Derived.Test.YtkmldclpaniclaaGreatBrsS
import Derived.Test.YtkmldclpaniclaaGreatNamD
import Derived.Test.YtkmldclpaniclaaGreatSxZ
import Derived.ProofKit
import Derived.OpenShut
import Derived.Lib.SmallJoins
import Derived.Deep.Matrix
set_option linter.unusedSimpArgs false
set_option linter.unusedVariables false
section
open Go Go.Proofs
namespace Go.Sx
def tv(x:Int)(y:Int)(n:Int):Post:=⟨1<=n/\n<=12/\0<=x/\x<n/\0<=y/\y<n,.c (.int .i64 (dA n x.toNat y.toNat)),[]⟩
def oX:List AD->Option Post
 | [.c (.int .i64 x),.c (.int .i64 y),.box [.int .i64 n]]=>some (tv x y n)
 |_=>none
def H3:List (Nat×Ctr):=[]
def AV(x:Int)(y:Int)(n:Int):Prop :=
 ac (x+y)/\n≠(0:Int)/\Int.tmod (x+y) n=dA n x.toNat y.toNat/\True
theorem QL(x:Int)(y:Int)(n:Int):aY Tryz.prog (aj H3) am av Tryz.f217 (aP Tryz.f217) [] [.c (.int .i64 x),.c (.int .i64 y),.box [.int .i64 n]] (tv x y n)=AV x y n:=by kernel_rfl
theorem QM(x:Int)(y:Int)(n:Int)(Yh:(tv x y n).pre):AV x y n:=by
 simp only[tv,AV,aX,u1,u2,u3,u4,u5,u6,u7,u8,u9,v1,v2,v3,v4,v5,v6,v7,v8,v9,w1,w2,w3,w4,aN,ab,ac,ah,ax]at Yh⊢;obtain⟨h1,h2,h3,h4,h5,h6⟩:=Yh;rw[dA,Int.toNat_of_nonneg h3,Int.toNat_of_nonneg h5];exact⟨⟨by omega,by omega⟩,by omega,rfl⟩
theorem QN:Fits Tryz.prog 217 ⟨[],oX⟩:=by
 refine bf (Γ:=aj H3) aW Tryz.func217 fun ds p h hp=>?_
 unfold oX at h;split at h
 ·cases h
  exact⟨am,av,by rw[QL];exact QM _ _ _  hp⟩
 ·cases h
def tw(n:Int):Post:=⟨1<=n/\n<=12,.agg [.rows 62 2 .i64 (ag n)],[]⟩
def AW:List AD->Option Post
 | [.c (.int .i64 n)]=>some (tw n)
 |_=>none
def H4:List (Nat×Ctr):=[(124,⟨[],lh⟩),(217,⟨[],oX⟩)]
def AX(n:Int):Prop :=
 (((0:Int)<=n/\n<=(144:Int)/\∀(x y:Int),(0:Int)<=x->x<n->(0:Int)<=y->y<n->ip (oX [AD.c (FC.int IntKind.i64 x),AD.c (FC.int IntKind.i64 y),AD.box [FC.int IntKind.i64 n]]))/\True)/\((bQ n.toNat fun(x y:Nat)=>io (oX [AD.c (FC.int IntKind.i64 (x:Int)),AD.c (FC.int IntKind.i64 (y:Int)),AD.box [FC.int IntKind.i64 n]]))=ag n/\True)/\True
theorem QO(n:Int):aY Tryz.prog (aj H4) am av Tryz.f173 (aP Tryz.f173) [] [.c (.int .i64 n)] (tw n)=AX n:=by kernel_rfl
theorem QP(n:Int)(Yh:(tw n).pre):AX n:=by
 simp only[tw,AX,aX,u1,u2,u3,u4,u5,u6,u7,u8,u9,v1,v2,v3,v4,v5,v6,v7,v8,v9,w1,w2,w3,w4,aN,ab,ac,ah,ax]at Yh⊢;obtain⟨h1,h2⟩:=Yh;refine⟨⟨by omega,by omega,fun x y x1 x2 y1 y2=>⟨h1,h2,x1,x2,y1,y2⟩⟩,?_⟩
 exact sd fun x y hx hy=>rfl
theorem QQ:Fits Tryz.prog 173 ⟨[],AW⟩:=by
 refine bf (Γ:=aj H4) (aD oy (aD QN aW)) Tryz.func173 fun ds p h hp=>?_
 unfold AW at h;split at h
 ·cases h
  exact⟨am,av,by rw[QO];exact QP _  hp⟩
 ·cases h
def tz(x:Int)(y:Int)(n:Int)(s:Int):Post:=⟨1<=n/\n<=12/\0<=s/\s<=12/\0<=x/\x<2*n/\0<=y/\y<2*n,.c (.int .i64 (bp n s x.toNat y.toNat)),[]⟩
def oY:List AD->Option Post
 | [.c (.int .i64 x),.c (.int .i64 y),.box [.int .i64 n],.box [.int .i64 s]]=>some (tz x y n s)
 |_=>none
def H5:List (Nat×Ctr):=[]
def AY(x:Int)(y:Int)(n:Int)(s:Int):Prop :=
 ae (decide (x<n)) (ac (Int.tmod x n+Int.tmod y n)/\n≠(0:Int)/\ac (n+Int.tmod (Int.tmod x n+Int.tmod y n) n)/\n+Int.tmod (Int.tmod x n+Int.tmod y n) n=bp n s x.toNat y.toNat/\True) (ae (decide (y<n)) (ac (Int.tmod x n-Int.tmod y n)/\ac (Int.tmod x n-Int.tmod y n+n)/\n≠(0:Int)/\ac (n+Int.tmod (Int.tmod x n-Int.tmod y n+n) n)/\n+Int.tmod (Int.tmod x n-Int.tmod y n+n) n=bp n s x.toNat y.toNat/\True) (ac (Int.tmod x n-Int.tmod y n)/\ac (Int.tmod x n-Int.tmod y n+n)/\ac (Int.tmod x n-Int.tmod y n+n+s)/\n≠(0:Int)/\Int.tmod (Int.tmod x n-Int.tmod y n+n+s) n=bp n s x.toNat y.toNat/\True))
def AZ(x:Int)(y:Int)(n:Int)(s:Int):Prop :=
 n≠(0:Int)/\n≠(0:Int)/\ae (decide (x<n)) (ae (decide (y<n)) (ac (Int.tmod x n+Int.tmod y n)/\n≠(0:Int)/\Int.tmod (Int.tmod x n+Int.tmod y n) n=bp n s x.toNat y.toNat/\True) (AY x y n s)) (AY x y n s)
theorem QR(x:Int)(y:Int)(n:Int)(s:Int):aY Tryz.prog (aj H5) am av Tryz.f218 (aP Tryz.f218) [] [.c (.int .i64 x),.c (.int .i64 y),.box [.int .i64 n],.box [.int .i64 s]] (tz x y n s)=AZ x y n s:=by kernel_rfl
theorem QS(x:Int)(y:Int)(n:Int)(s:Int)(Yh:(tz x y n s).pre):AZ x y n s:=by
 simp only[tz,AZ,AY,aX,u1,u2,u3,u4,u5,u6,u7,u8,u9,v1,v2,v3,v4,v5,v6,v7,v8,v9,w1,w2,w3,w4,aN,ab,ac,ah,ax]at Yh⊢;obtain⟨h1,h2,h3,h4,x1,x2,y1,y2⟩:=Yh;have a:0<=x.tmod n/\x.tmod n<n:=lf x1 h1
 have b:0<=y.tmod n/\y.tmod n<n:=lf y1 h1
 have c:=lf (x:=x.tmod n+y.tmod n) (by omega) h1
 have d:=lf (x:=x.tmod n-y.tmod n+n) (by omega) h1
 have e:=lf (x:=x.tmod n-y.tmod n+n+s) (by omega) h1
 rw[bp,Int.toNat_of_nonneg x1,Int.toNat_of_nonneg y1];by_cases q:x<n<;>by_cases r:y<n<;>simp[q,r]<;>omega
theorem QT:Fits Tryz.prog 218 ⟨[],oY⟩:=by
 refine bf (Γ:=aj H5) aW Tryz.func218 fun ds p h hp=>?_
 unfold oY at h;split at h
 ·cases h
  exact⟨am,av,by rw[QR];exact QS _ _ _ _  hp⟩
 ·cases h
def tA(n:Int)(s:Int):Post:=⟨1<=n/\n<=12/\0<=s/\s<=12,.agg [.rows 62 2 .i64 (bT n s)],[]⟩
def A0:List AD->Option Post
 | [.c (.int .i64 n),.c (.int .i64 s)]=>some (tA n s)
 |_=>none
def H6:List (Nat×Ctr):=[(124,⟨[],lh⟩),(218,⟨[],oY⟩)]
def A4(n:Int)(s:Int):Prop :=
 ac ((2:Int)*n)/\(((0:Int)<=(2:Int)*n/\(2:Int)*n<=(144:Int)/\∀(x y:Int),(0:Int)<=x->x<(2:Int)*n->(0:Int)<=y->y<(2:Int)*n->ip (oY [AD.c (FC.int IntKind.i64 x),AD.c (FC.int IntKind.i64 y),AD.box [FC.int IntKind.i64 n],AD.box [FC.int IntKind.i64 s]]))/\True)/\((bQ (((2:Int)*n).toNat) fun(x y:Nat)=>io (oY [AD.c (FC.int IntKind.i64 (x:Int)),AD.c (FC.int IntKind.i64 (y:Int)),AD.box [FC.int IntKind.i64 n],AD.box [FC.int IntKind.i64 s]]))=bT n s/\True)/\True
theorem QU(n:Int)(s:Int):aY Tryz.prog (aj H6) am av Tryz.f174 (aP Tryz.f174) [] [.c (.int .i64 n),.c (.int .i64 s)] (tA n s)=A4 n s:=by kernel_rfl
theorem QV(n:Int)(s:Int)(Yh:(tA n s).pre):A4 n s:=by
 simp only[tA,A4,aX,u1,u2,u3,u4,u5,u6,u7,u8,u9,v1,v2,v3,v4,v5,v6,v7,v8,v9,w1,w2,w3,w4,aN,ab,ac,ah,ax]at Yh⊢;obtain⟨h1,h2,h3,h4⟩:=Yh;refine⟨by omega,⟨by omega,by omega,fun x y x1 x2 y1 y2=>⟨h1,h2,h3,h4,x1,x2,y1,y2⟩⟩,?_⟩
 exact sd fun x y hx hy=>rfl
theorem QW:Fits Tryz.prog 174 ⟨[],A0⟩:=by
 refine bf (Γ:=aj H6) (aD oy (aD QT aW)) Tryz.func174 fun ds p h hp=>?_
 unfold A0 at h;split at h
 ·cases h
  exact⟨am,av,by rw[QU];exact QV _ _  hp⟩
 ·cases h
def tB(x:Int)(y:Int)(a:List (List Int))(m:Int)(b:List (List Int)):Post:=⟨aB a.length a/\aB b.length b/\1<=b.length/\a.length*b.length<=144/\m=(b.length:Int)/\0<=x/\x<((a.length*b.length:Nat):Int)/\0<=y/\y<((a.length*b.length:Nat):Int),.c (.int .i64 (cM a b x.toNat y.toNat)),[]⟩
def oZ:List AD->Option Post
 | [.c (.int .i64 x),.c (.int .i64 y),.box [.rows .i64 a],.box [.int .i64 m],.box [.rows .i64 b]]=>some (tB x y a m b)
 |_=>none
def H7:List (Nat×Ctr):=[]
def A5(x:Int)(y:Int)(a:List (List Int))(m:Int)(b:List (List Int)):Prop :=
 (m≠(0:Int)/\ac (Int.tdiv x m))/\ab (Int.tdiv x m) a.length/\(m≠(0:Int)/\ac (Int.tdiv y m))/\ab (Int.tdiv y m) ((a.getD (Int.tdiv x m).toNat []).length)/\ac ((List.getD a (Int.tdiv x m).toNat []).getD (Int.tdiv y m).toNat (0:Int)*m)/\m≠(0:Int)/\ab (Int.tmod x m) b.length/\m≠(0:Int)/\ab (Int.tmod y m) ((b.getD (Int.tmod x m).toNat []).length)/\ac ((List.getD a (Int.tdiv x m).toNat []).getD (Int.tdiv y m).toNat (0:Int)*m+(List.getD b (Int.tmod x m).toNat []).getD (Int.tmod y m).toNat (0:Int))/\(List.getD a (Int.tdiv x m).toNat []).getD (Int.tdiv y m).toNat (0:Int)*m+(List.getD b (Int.tmod x m).toNat []).getD (Int.tmod y m).toNat (0:Int)=cM a b x.toNat y.toNat/\True
theorem QX(x:Int)(y:Int)(a:List (List Int))(m:Int)(b:List (List Int)):aY Tryz.prog (aj H7) am av Tryz.f216 (aP Tryz.f216) [] [.c (.int .i64 x),.c (.int .i64 y),.box [.rows .i64 a],.box [.int .i64 m],.box [.rows .i64 b]] (tB x y a m b)=A5 x y a m b:=by kernel_rfl
theorem QY(x:Int)(y:Int)(a:List (List Int))(m:Int)(b:List (List Int))(Yh:(tB x y a m b).pre):A5 x y a m b:=by
 simp only[tB,A5,aX,u1,u2,u3,u4,u5,u6,u7,u8,u9,v1,v2,v3,v4,v5,v6,v7,v8,v9,w1,w2,w3,w4,aN,ab,ac,ah,ax]at Yh⊢;obtain⟨h1,h2,h3,h4,rfl,a1,a2,b1,b2⟩:=Yh;obtain⟨x1,x2,x3,x4⟩:=mQ (x:=x.toNat) (a:=a.length) (m:=b.length) (by omega) h3
 obtain⟨y1,y2,y3,y4⟩:=mQ (x:=y.toNat) (a:=a.length) (m:=b.length) (by omega) h3
 have P:=GB h1 h2 h3 (x:=x.toNat) (y:=y.toNat) (by omega) (by omega)
 have A:=(h1.2 _ x3)
 have B:=(h2.2 _ x4)
 have A2:=A.2 _ y3
 have B2:=B.2 _ y4
 have E:cM a b x.toNat y.toNat=cM a b x.toNat y.toNat:=rfl
 conv at E=>rhs;rw[cM]
 rw[Int.toNat_of_nonneg a1]at x1 x2 E;rw[Int.toNat_of_nonneg b1]at y1 y2 E;rw[x1,x2,y1,y2]at E;rw[E]at P⊢;rw[x1,x2,y1,y2];simp only[Int.toNat_natCast]at P⊢;have A3:((a.getD (x.toNat / b.length) []).getD (y.toNat / b.length) 0)=en a (x.toNat / b.length) (y.toNat / b.length):=rfl
 have B3:((b.getD (x.toNat % b.length) []).getD (y.toNat % b.length) 0)=en b (x.toNat % b.length) (y.toNat % b.length):=rfl
 rw[A3,B3];have u0:0<=en a (x.toNat / b.length) (y.toNat / b.length)*(b.length:Int):=Int.mul_nonneg A2.1 (by omega)
 have eb:=h2.1
 have xl:x.toNat / b.length<=x.toNat:=Nat.div_le_self _ _
 have yl:y.toNat / b.length<=y.toNat:=Nat.div_le_self _ _
 clear x1 x2 y1 y2 E;generalize x.toNat / b.length=u1 at *
 generalize y.toNat / b.length=u2 at *
 generalize x.toNat % b.length=v1 at *
 generalize y.toNat % b.length=v2 at *
 generalize a.length*b.length=N at *
 generalize en a u1 u2*(b.length:Int)=W at *
 refine⟨⟨by omega,by omega⟩,by omega,⟨by omega,by omega⟩,by omega,by omega,by omega,by omega,by omega,by omega,by omega⟩
theorem QZ:Fits Tryz.prog 216 ⟨[],oZ⟩:=by
 refine bf (Γ:=aj H7) aW Tryz.func216 fun ds p h hp=>?_
 unfold oZ at h;split at h
 ·cases h
  exact⟨am,av,by rw[QX];exact QY _ _ _ _ _  hp⟩
 ·cases h
def tC(a:List (List Int))(b:List (List Int)):Post:=⟨aB a.length a/\aB b.length b/\1<=b.length/\a.length*b.length<=144,.c (.rows 62 2 .i64 (a8 a b)),[]⟩
def A6:List AD->Option Post
 | [.c (.rows .i64 a),.c (.rows .i64 b)]=>some (tC a b)
 |_=>none
def H8:List (Nat×Ctr):=[(124,⟨[],lh⟩),(216,⟨[],oZ⟩)]
def A7(a:List (List Int))(b:List (List Int)):Prop :=
 ac ((a.length:Int)*(b.length:Int))/\(((0:Int)<=(a.length:Int)*(b.length:Int)/\(a.length:Int)*(b.length:Int)<=(144:Int)/\∀(x y:Int),(0:Int)<=x->x<(a.length:Int)*(b.length:Int)->(0:Int)<=y->y<(a.length:Int)*(b.length:Int)->ip (oZ [AD.c (FC.int IntKind.i64 x),AD.c (FC.int IntKind.i64 y),AD.box [FC.rows IntKind.i64 a],AD.box [FC.int IntKind.i64 (b.length:Int)],AD.box [FC.rows IntKind.i64 b]]))/\True)/\(bQ (((a.length:Int)*(b.length:Int)).toNat) fun(x y:Nat)=>io (oZ [AD.c (FC.int IntKind.i64 (x:Int)),AD.c (FC.int IntKind.i64 (y:Int)),AD.box [FC.rows IntKind.i64 a],AD.box [FC.int IntKind.i64 (b.length:Int)],AD.box [FC.rows IntKind.i64 b]]))=a8 a b/\True
theorem Q0(a:List (List Int))(b:List (List Int)):aY Tryz.prog (aj H8) am av Tryz.f172 (aP Tryz.f172) [] [.c (.rows .i64 a),.c (.rows .i64 b)] (tC a b)=A7 a b:=by kernel_rfl
theorem Q1(a:List (List Int))(b:List (List Int))(Yh:(tC a b).pre):A7 a b:=by
 simp only[tC,A7,aX,u1,u2,u3,u4,u5,u6,u7,u8,u9,v1,v2,v3,v4,v5,v6,v7,v8,v9,w1,w2,w3,w4,aN,ab,ac,ah,ax]at Yh⊢;obtain⟨h1,h2,h3,h4⟩:=Yh;have hc:(a.length:Int)*(b.length:Int)=((a.length*b.length:Nat):Int):=by rw[Int.natCast_mul]
 rw[hc];refine⟨by omega,⟨by omega,by omega,fun x y x1 x2 y1 y2=>⟨h1,h2,h3,h4,rfl,x1,x2,y1,y2⟩⟩,?_⟩
 rw[Int.toNat_natCast];exact sd fun x y hx hy=>rfl
theorem Q2:Fits Tryz.prog 172 ⟨[],A6⟩:=by
 refine bf (Γ:=aj H8) (aD oy (aD QZ aW)) Tryz.func172 fun ds p h hp=>?_
 unfold A6 at h;split at h
 ·cases h
  exact⟨am,av,by rw[Q0];exact Q1 _ _  hp⟩
 ·cases h
def tD(a:List (List Int))(b:List (List Int)):Post:=⟨aB a.length a/\aB b.length b/\1<=b.length/\a.length*b.length<=144,.agg [.rows 62 2 .i64 (a8 a b)],[]⟩
def A8:List AD->Option Post
 | [.agg [.rows .i64 a],.agg [.rows .i64 b]]=>some (tD a b)
 |_=>none
def H9:List (Nat×Ctr):=[(172,⟨[],A6⟩)]
def A9(a:List (List Int))(b:List (List Int)):Prop :=
 ((aB a.length a/\aB b.length b/\(1:Nat)<=b.length/\a.length*b.length<=(144:Nat))/\True)/\(a8 a b=a8 a b/\True)/\True
theorem Q3(a:List (List Int))(b:List (List Int)):aY Tryz.prog (aj H9) am av Tryz.f171 (aP Tryz.f171) [] [.agg [.rows .i64 a],.agg [.rows .i64 b]] (tD a b)=A9 a b:=by kernel_rfl
theorem Q4(a:List (List Int))(b:List (List Int))(Yh:(tD a b).pre):A9 a b:=by
 simp only[tD,A9,aX,u1,u2,u3,u4,u5,u6,u7,u8,u9,v1,v2,v3,v4,v5,v6,v7,v8,v9,w1,w2,w3,w4,aN,ab,ac,ah,ax]at Yh⊢;exact Yh
theorem Q5:Fits Tryz.prog 171 ⟨[],A8⟩:=by
 refine bf (Γ:=aj H9) (aD Q2 aW) Tryz.func171 fun ds p h hp=>?_
 unfold A8 at h;split at h
 ·cases h
  exact⟨am,av,by rw[Q3];exact Q4 _ _  hp⟩
 ·cases h
def tE(n:Int):Post:=⟨1<=n/\n<=7,.c (.tr [29,62,2] (.r3 .i64 (aI n))),[]⟩
def Ba:List AD->Option Post
 | [.c (.int .i64 n)]=>some (tE n)
 |_=>none
def Ia(t:Nat):Bool:=[6000009,6000018,6000027].contains t
def Ib:List (Nat×Ctr):=[(173,⟨[],AW⟩),(174,⟨[],A0⟩),(171,⟨[],A8⟩)]
def Bb(n:Int):Prop :=
 ae (n == (8:Int)) ((((1:Int)<=(2:Int)/\(2:Int)<=(12:Int))/\True)/\(((1:Int)<=(4:Int)/\(4:Int)<=(12:Int))/\True)/\((aB ((ag (2:Int)).length) (ag (2:Int))/\aB ((ag (4:Int)).length) (ag (4:Int))/\(1:Nat)<=(ag (4:Int)).length/\(ag (2:Int)).length*(ag (4:Int)).length<=(144:Nat))/\True)/\(((1:Int)<=(2:Int)/\(2:Int)<=(12:Int))/\True)/\(((1:Int)<=(2:Int)/\(2:Int)<=(12:Int))/\True)/\(((1:Int)<=(2:Int)/\(2:Int)<=(12:Int))/\True)/\((aB ((ag (2:Int)).length) (ag (2:Int))/\aB ((ag (2:Int)).length) (ag (2:Int))/\(1:Nat)<=(ag (2:Int)).length/\(ag (2:Int)).length*(ag (2:Int)).length<=(144:Nat))/\True)/\((aB ((ag (2:Int)).length) (ag (2:Int))/\aB ((a8 (ag (2:Int)) (ag (2:Int))).length) (a8 (ag (2:Int)) (ag (2:Int)))/\(1:Nat)<=(a8 (ag (2:Int)) (ag (2:Int))).length/\(ag (2:Int)).length*(a8 (ag (2:Int)) (ag (2:Int))).length<=(144:Nat))/\True)/\(((1:Int)<=(4:Int)/\(4:Int)<=(12:Int)/\(0:Int)<=(0:Int)/\(0:Int)<=(12:Int))/\True)/\(((1:Int)<=(4:Int)/\(4:Int)<=(12:Int)/\(0:Int)<=(2:Int)/\(2:Int)<=(12:Int))/\True)/\False) (ae (n == (9:Int)) ((((1:Int)<=(3:Int)/\(3:Int)<=(12:Int))/\True)/\(((1:Int)<=(3:Int)/\(3:Int)<=(12:Int))/\True)/\((aB ((ag (3:Int)).length) (ag (3:Int))/\aB ((ag (3:Int)).length) (ag (3:Int))/\(1:Nat)<=(ag (3:Int)).length/\(ag (3:Int)).length*(ag (3:Int)).length<=(144:Nat))/\True)/\False) (ae (n == (12:Int)) False
 ((ag n::([]:List (List (List Int)))=aI n)/\True)))
def Bc(n:Int):Prop :=
 ((((1:Int)<=n/\n<=(12:Int))/\True)/\(ae (n == (4:Int)) ((((1:Int)<=(2:Int)/\(2:Int)<=(12:Int))/\True)/\(((1:Int)<=(2:Int)/\(2:Int)<=(12:Int))/\True)/\((aB ((ag (2:Int)).length) (ag (2:Int))/\aB ((ag (2:Int)).length) (ag (2:Int))/\(1:Nat)<=(ag (2:Int)).length/\(ag (2:Int)).length*(ag (2:Int)).length<=(144:Nat))/\True)/\ah (FC.len (FC.r3 IntKind.i64 (ag n::([]:List (List (List Int)))))+FC.len (FC.r3 IntKind.i64 (a8 (ag (2:Int)) (ag (2:Int))::([]:List (List (List Int))))))/\ag n::([]:List (List (List Int)))++a8 (ag (2:Int)) (ag (2:Int))::([]:List (List (List Int)))=aI n/\True) (ae (n == (6:Int)) (ae (n == (6:Int)) (((2:Int)≠(0:Int)/\ac (Int.tdiv n (2:Int)))/\(((1:Int)<=Int.tdiv n (2:Int)/\Int.tdiv n (2:Int)<=(12:Int)/\(0:Int)<=(0:Int)/\(0:Int)<=(12:Int))/\True)/\ah (FC.len (FC.r3 IntKind.i64 (ag n::([]:List (List (List Int)))))+FC.len (FC.r3 IntKind.i64 (bT (Int.tdiv n (2:Int)) (0:Int)::([]:List (List (List Int))))))/\ag n::([]:List (List (List Int)))++bT (Int.tdiv n (2:Int)) (0:Int)::([]:List (List (List Int)))=aI n/\True) (Bb n)) (ae (n == (10:Int)) (((2:Int)≠(0:Int)/\ac (Int.tdiv n (2:Int)))/\((((1:Int)<=Int.tdiv n (2:Int)/\Int.tdiv n (2:Int)<=(12:Int)/\(0:Int)<=(0:Int)/\(0:Int)<=(12:Int))/\True) /\
 ((ah (FC.len (FC.r3 IntKind.i64 (ag n::([]:List (List (List Int)))))+FC.len (FC.r3 IntKind.i64 (bT (Int.tdiv n (2:Int)) (0:Int)::([]:List (List (List Int)))))))/\((ag n::([]:List (List (List Int)))++bT (Int.tdiv n (2:Int)) (0:Int)::([]:List (List (List Int)))=aI n)/\True)))) (Bb n)))))
theorem Q6(n:Int):aY Tryz.prog (aj Ib) Ia av Tryz.f127 (aP Tryz.f127) [] [.c (.int .i64 n)] (tE n)=Bc n:=by kernel_rfl
theorem Q7(n:Int)(Yh:(tE n).pre):Bc n:=by
 simp only[tE,Bc,Bb,aX,u1,u2,u3,u4,u5,u6,u7,u8,u9,v1,v2,v3,v4,v5,v6,v7,v8,v9,w1,w2,w3,w4,aN,ab,ac,ah,ax]at Yh⊢;obtain⟨h1,h2⟩:=Yh;have l2:(ag 2).length=2:=by have:=rJ (n:=2) (by omega);omega
 have t2:=xF (n:=2) (by omega)
 rw[l2]at t2;have:n=1\/n=2\/n=3\/n=4\/n=5\/n=6\/n=7:=by omega
 rcases this with rfl|rfl|rfl|rfl|rfl|rfl|rfl<;>simp[l2,t2,aI,FC.len]
theorem Q8:Fits Tryz.prog 127 ⟨[],Ba⟩:=by
 refine bf (Γ:=aj Ib) (aD QQ (aD QW (aD Q5 aW))) Tryz.func127 fun ds p h hp=>?_
 unfold Ba at h;split at h
 ·cases h
  exact⟨Ia,av,by rw[Q6];exact Q7 _  hp⟩
 ·cases h
def jB(n:Int):List (List (List Int)×List (List Int)):=(aI n).flatMap fun t=>bC t (bH t (aa t))
theorem o5{n:Int}(h1:1<=n)(h2:n<=7):(aI n).length<=2/\∀t∈aI n,(t.length:Int)=n/\f4 t=true:=by
 have:n=1\/n=2\/n=3\/n=4\/n=5\/n=6\/n=7:=by omega
 rcases this with rfl|rfl|rfl|rfl|rfl|rfl|rfl<;>decide +kernel
theorem nv{n:Int}(h1:1<=n)(h2:n<=7){t:List (List Int)}(ht:t∈aI n):(bC t (bH t (aa t))).length<=2401/\∀q∈bC t (bH t (aa t)),aB t.length q.1/\aB t.length q.2:=by
 obtain⟨e,g⟩:=(o5 h1 h2).2 t ht;have G:=my g
 refine⟨by rw[bC,List.length_map];exact Nat.le_trans (List.length_filter_le _ _) (pI G (by omega)),fun q hq=>?_⟩
 obtain⟨c,hc,rfl⟩:=List.mem_map.1 hq;exact⟨G.tb,nP G (by omega) (List.mem_filter.1 hc).1⟩
theorem tF{α β:Type}(f:α->List β)(k:Nat):∀l:List α,(∀x∈l,(f x).length<=k)->(l.flatMap f).length<=l.length*k
 | [],_=>by simp
 |x::l,h=>by
  have h1:=h x List.mem_cons_self
  have h2:=tF f k l fun y hy=>h y (List.mem_cons_of_mem _ hy)
  rw[List.flatMap_cons,List.length_append,List.length_cons,Nat.add_mul];omega
def tG(n:Int):Post:=⟨1<=n/\n<=7,.c (.tr [39,62,2] (.p3 .i64 (jB n))),[]⟩
def Bd:List AD->Option Post
 | [.c (.int .i64 n)]=>some (tG n)
 |_=>none
def Ic(n:Int):Nat->Option Ann
 |0=>some (Ann.mk ((Nat)) (fun i=>⟨[(0,.c (.int .i64 n)),(3,.c (.own 600)),(7,.c (.ro (.r3 .i64 (aI n)))),(8,.c (.int .i64 (((aI n).length:Int)))),(9,.c (.int .i64 ((i:Int))))],[(600,some (.tr 0 [39,62,2] (.p3 .i64 (((aI n).take i).flatMap fun t=>bC t (bH t (aa t))))))]⟩) (fun i=>i<=(aI n).length) (fun i=>(aI n).length-i) (fun _=>av))
 |_=>none
def Id:List (Nat×Ctr):=[(127,⟨[],Ba⟩),(54,⟨[],uW⟩)]
def jC(n:Int)(x0:Nat):=((aI n).getD (↑x0:Int).toNat ([]:List (List Int)))
def Be(n:Int):Prop :=
 (((1:Int)<=n/\n<=(7:Int))/\True)/\(∃x0:Nat,x0<=(aI n).length/\n=n/\aI n=aI n/\(↑(FC.len (FC.r3 IntKind.i64 (aI n))):Int)=(↑((aI n).length):Int)/\(0:Int)=(x0:Int)/\FC.len (FC.p3 IntKind.i64 (List.flatMap (fun(t:List (List Int))=>bC t (bH t (aa t))) (List.take x0 (aI n))))=(0:Nat))/\∀x1:Nat,x1<=(aI n).length->ae (decide ((x1:Int)<(↑((aI n).length):Int))) (ab (x1:Int) (aI n).length/\((f4 (jC n x1)=true/\(jC n x1).length<=(7:Nat))/\True)/\ah (FC.len (FC.p3 IntKind.i64 (List.flatMap (fun(t:List (List Int))=>bC t (bH t (aa t))) (List.take x1 (aI n))))+FC.len (FC.p3 IntKind.i64 (bC (jC n x1) ((cW (aa (jC n x1)) (aU (jC n x1))).2))))/\ac ((x1:Int)+(1:Int))/\∃x2:Nat,x2<=(aI n).length/\(aI n).length-x2<(aI n).length-x1/\n=n/\aI n=aI n/\(↑((aI n).length):Int)=(↑((aI n).length):Int)/\(x1:Int)+(1:Int)=(x2:Int)/\List.flatMap (fun(t:List (List Int))=>bC t (bH t (aa t))) (List.take x1 (aI n))++bC (jC n x1) ((cW (aa (jC n x1)) (aU (jC n x1))).2)=List.flatMap (fun(t:List (List Int))=>bC t (bH t (aa t))) (List.take x2 (aI n))) (List.flatMap (fun(t:List (List Int))=>bC t (bH t (aa t))) (List.take x1 (aI n))=jB n/\True)
theorem Q9(n:Int):aY Tryz.prog (aj Id) am (Ic n) Tryz.f74 (aP Tryz.f74) [] [.c (.int .i64 n)] (tG n)=Be n:=by kernel_rfl
theorem Ra(n:Int)(Yh:(tG n).pre):Be n:=by
 simp only[tG,Be,jC,aX,u1,u2,u3,u4,u5,u6,u7,u8,u9,v1,v2,v3,v4,v5,v6,v7,v8,v9,w1,w2,w3,w4,aN,ab,ac,ah,ax]at Yh⊢;obtain⟨h1,h2⟩:=Yh;obtain⟨n2,ng⟩:=o5 h1 h2;refine⟨⟨h1,h2⟩,⟨0,by omega,rfl,by omega,rfl⟩,fun i hi=>⟨fun hlt=>?_,fun hge=>?_⟩⟩
 ·have hi1:i<(aI n).length:=by omega
  have m:=bO (aI n) [] i hi1
  obtain⟨e,g⟩:=ng _ m;have G:=my g
  have E:=KQ G (by omega)
  rw[E];refine⟨by omega,⟨g,by omega⟩,?_,by omega,i+1,by omega,by omega,by omega,?_⟩
  ·have a:=tF (fun t=>bC t (bH t (aa t))) 2401 ((aI n).take i) fun x hx=>(nv h1 h2 (List.mem_of_mem_take hx)).1
   have b:=(nv h1 h2 m).1
   rw[List.length_take]at a;have:min i (aI n).length*2401<=2*2401:=Nat.mul_le_mul_right _ (by omega)
   simp only[FC.len];omega
  ·rw[<-du _ [] i hi1,List.flatMap_append];simp
 ·rw[List.take_of_length_le (by omega)];rfl
theorem Rb:Fits Tryz.prog 74 ⟨[],Bd⟩:=by
 refine bf (Γ:=aj Id) (aD Q8 (aD Kq aW)) Tryz.func74 fun ds p h hp=>?_
 unfold Bd at h;split at h
 ·cases h
  exact⟨am,Ic _ ,by rw[Q9];exact Ra _  hp⟩
 ·cases h
def tH(n:Int):Post:=⟨1<=n/\n<=7,.c (.ro (.p3 .i64 (jB n))),[]⟩
def Bf:List AD->Option Post
 | [.c (.int .i64 n)]=>some (tH n)
 |_=>none
def Ie(n:Int):Nat->Option Ann
 |0=>some (Ann.mk ((Nat)) (fun i=>⟨[(0,.c (.int .i64 n)),(3,.c (.ro (.r3 .i64 (aI n)))),(4,.c (.own 600)),(5,.c (.int .i64 ((i:Int))))],[(600,some (.lst 0 39 (.p3 .i64 (((aI n).take i).flatMap fun t=>bC t (bH t (aa t))))))]⟩) (fun i=>i<=(aI n).length) (fun i=>(aI n).length-i) (fun _=>av))
 |_=>none
def If(t:Nat):Bool:=[5000008].contains t
def Ig:List (Nat×Ctr):=[(126,⟨[],xG⟩),(51,⟨[],vf⟩)]
def jD(n:Int)(x0:Nat):=((aI n).getD (↑x0:Int).toNat ([]:List (List Int)))
def Bg(n:Int):Prop :=
 (((1:Int)<=n/\n<=(8:Int))/\True)/\(∃x0:Nat,x0<=(aI n).length/\n=n/\aI n=aI n/\(0:Int)=(x0:Int)/\[]=List.flatMap (fun(t:List (List Int))=>bC t (bH t (aa t))) (List.take x0 (aI n)))/\∀x1:Nat,x1<=(aI n).length->ae (decide ((x1:Int)<(↑((aI n).length):Int))) (ab (x1:Int) (aI n).length/\((f4 (jD n x1)=true/\(jD n x1).length<=(7:Nat))/\True)/\ah (FC.len (FC.p3 IntKind.i64 (List.flatMap (fun(t:List (List Int))=>bC t (bH t (aa t))) (List.take x1 (aI n))))+FC.len (FC.p3 IntKind.i64 (bC (jD n x1) (bH (jD n x1) (aa (jD n x1))))))/\ac ((x1:Int)+(1:Int))/\∃x2:Nat,x2<=(aI n).length/\(aI n).length-x2<(aI n).length-x1/\n=n/\aI n=aI n/\(x1:Int)+(1:Int)=(x2:Int)/\List.flatMap (fun(t:List (List Int))=>bC t (bH t (aa t))) (List.take x1 (aI n))++bC (jD n x1) (bH (jD n x1) (aa (jD n x1)))=List.flatMap (fun(t:List (List Int))=>bC t (bH t (aa t))) (List.take x2 (aI n))) (List.flatMap (fun(t:List (List Int))=>bC t (bH t (aa t))) (List.take x1 (aI n))=jB n/\True)
theorem Rc(n:Int):aY Tryz.prog (aj Ig) If (Ie n) Tryz.f72 (aP Tryz.f72) [] [.c (.int .i64 n)] (tH n)=Bg n:=by kernel_rfl
theorem Re(n:Int)(Yh:(tH n).pre):Bg n:=by
 simp only[tH,Bg,jD,aX,u1,u2,u3,u4,u5,u6,u7,u8,u9,v1,v2,v3,v4,v5,v6,v7,v8,v9,w1,w2,w3,w4,aN,ab,ac,ah,ax]at Yh⊢;obtain⟨h1,h2⟩:=Yh;obtain⟨n2,ng⟩:=o5 h1 h2;refine⟨⟨h1,by omega⟩,⟨0,by omega,by omega,rfl⟩,fun i hi=>⟨fun hlt=>?_,fun hge=>?_⟩⟩
 ·have hi1:i<(aI n).length:=by omega
  have m:=bO (aI n) [] i hi1
  obtain⟨e,g⟩:=ng _ m;refine⟨by omega,⟨g,by omega⟩,?_,by omega,i+1,by omega,by omega,by omega,?_⟩
  ·have a:=tF (fun t=>bC t (bH t (aa t))) 2401 ((aI n).take i) fun x hx=>(nv h1 h2 (List.mem_of_mem_take hx)).1
   have b:=(nv h1 h2 m).1
   rw[List.length_take]at a;have:min i (aI n).length*2401<=2*2401:=Nat.mul_le_mul_right _ (by omega)
   simp only[FC.len];omega
  ·rw[<-du _ [] i hi1,List.flatMap_append];simp
 ·rw[List.take_of_length_le (by omega)];rfl
theorem Rf:Fits Tryz.prog 72 ⟨[],Bf⟩:=by
 refine bf (Γ:=aj Ig) (aD N0 (aD KJ aW)) Tryz.func72 fun ds p h hp=>?_
 unfold Bf at h;split at h
 ·cases h
  exact⟨If,Ie _ ,by rw[Rc];exact Re _  hp⟩
 ·cases h
def bw(n:Int):List (List (List Int)×List (List Int))×Int:=if 1<=n/\n<=7 then(jB n,0)else([],2)
def tI(n:Int):Post:=⟨True,.tup [.inl (.tr [39,62,2] (.p3 .i64 (bw n).1)),.inl (.int .i64 (bw n).2)],[]⟩
def Bh:List AD->Option Post
 | [.c (.int .i64 n)]=>some (tI n)
 |_=>none
def Ih:List (Nat×Ctr):=[(73,⟨[],yE⟩),(74,⟨[],Bd⟩)]
def Bi(n:Int):Prop :=
 (True/\True)/\ae (!decide ((1:Int)<=n/\n<=(7:Int))) ((FC.len (FC.p3 IntKind.i64 (bw n).1)=(0:Nat)/\(2:Int)=(bw n).2/\True)/\True) ((((1:Int)<=n/\n<=(7:Int))/\True)/\(jB n=(bw n).1/\(0:Int)=(bw n).2/\True)/\True)
theorem Rg(n:Int):aY Tryz.prog (aj Ih) am av Tryz.f29 (aP Tryz.f29) [] [.c (.int .i64 n)] (tI n)=Bi n:=by kernel_rfl
theorem Rh(n:Int)(Yh:(tI n).pre):Bi n:=by
 simp only[tI,Bi,aX,u1,u2,u3,u4,u5,u6,u7,u8,u9,v1,v2,v3,v4,v5,v6,v7,v8,v9,w1,w2,w3,w4,aN,ab,ac,ah,ax]at Yh⊢;refine⟨fun h=>?_,fun h=>⟨h,?_⟩⟩
 ·rw[bw,if_neg h];exact⟨rfl,rfl⟩
 ·rw[bw,if_pos h];exact⟨rfl,rfl⟩
theorem Ri:Fits Tryz.prog 29 ⟨[],Bh⟩:=by
 refine bf (Γ:=aj Ih) (aD OU (aD Rb aW)) Tryz.func29 fun ds p h hp=>?_
 unfold Bh at h;split at h
 ·cases h
  exact⟨am,av,by rw[Rg];exact Rh _  hp⟩
 ·cases h
def tJ(n:Int):Post:=⟨True,.tup [.inl (.ro (.p3 .i64 (bw n).1)),.inl (.int .i64 (bw n).2)],[]⟩
def Bj:List AD->Option Post
 | [.c (.int .i64 n)]=>some (tJ n)
 |_=>none
def Ii:List (Nat×Ctr):=[(71,⟨[],yG⟩),(72,⟨[],Bf⟩)]
def Bk(n:Int):Prop :=
 (True/\True)/\ae (!decide ((1:Int)<=n/\n<=(7:Int))) ((FC.len (FC.p3 IntKind.i64 (bw n).1)=(0:Nat)/\(2:Int)=(bw n).2/\True)/\True) ((((1:Int)<=n/\n<=(7:Int))/\True)/\(jB n=(bw n).1/\(0:Int)=(bw n).2/\True)/\True)
theorem Rj(n:Int):aY Tryz.prog (aj Ii) am av Tryz.f28 (aP Tryz.f28) [] [.c (.int .i64 n)] (tJ n)=Bk n:=by kernel_rfl
theorem Rk(n:Int)(Yh:(tJ n).pre):Bk n:=by
 simp only[tJ,Bk,aX,u1,u2,u3,u4,u5,u6,u7,u8,u9,v1,v2,v3,v4,v5,v6,v7,v8,v9,w1,w2,w3,w4,aN,ab,ac,ah,ax]at Yh⊢;refine⟨fun h=>?_,fun h=>⟨h,?_⟩⟩
 ·rw[bw,if_neg h];exact⟨rfl,rfl⟩
 ·rw[bw,if_pos h];exact⟨rfl,rfl⟩
theorem Rl:Fits Tryz.prog 28 ⟨[],Bj⟩:=by
 refine bf (Γ:=aj Ii) (aD OY (aD Rf aW)) Tryz.func28 fun ds p h hp=>?_
 unfold Bj at h;split at h
 ·cases h
  exact⟨am,av,by rw[Rj];exact Rk _  hp⟩
 ·cases h
theorem Rm{l:List (List (List Int)×List (List Int))}(hl:l.length<=10000)(h:∀q∈l,∃n,n<=7/\aB n q.1/\aB n q.2):oq l/\jn l/\bc l<=1048576:=by
 have hs:=C8 ep 98 l fun q hq=>by
  obtain⟨n,hn,a,b⟩:=h q hq;have h1:=C7 a
  have h2:=C7 b
  have:n*n<=7*7:=Nat.mul_le_mul hn hn
  rw[ep];omega
 refine⟨⟨by omega,fun q hq=>?_⟩,⟨by omega,fun q hq=>?_⟩,?_⟩
 ·obtain⟨n,hn,a,b⟩:=h q hq
  exact⟨mi a (by omega),mi b (by omega)⟩
 ·obtain⟨n,hn,a,b⟩:=h q hq
  exact⟨by rw[a.1];omega,by rw[b.1];omega⟩
 ·rw[bc];omega
theorem Rn{n:Int}(h1:1<=n)(h2:n<=7):(jB n).length<=4802:=by
 have a:=tF (fun t=>bC t (bH t (aa t))) 2401 (aI n) fun x hx=>(nv h1 h2 hx).1
 have:(aI n).length*2401<=2*2401:=Nat.mul_le_mul_right _ (o5 h1 h2).1
 rw[jB];omega
theorem Ro(n:Int):oq (bw n).1/\jn (bw n).1/\bc (bw n).1<=1048576:=by
 rw[bw];split
 ·rename_i h
  refine Rm (Nat.le_trans (Rn h.1 h.2) (by omega)) fun q hq=>?_
  obtain⟨t,ht,hq⟩:=List.mem_flatMap.1 hq;exact⟨t.length,by have:=((o5 h.1 h.2).2 t ht).1;omega,(nv h.1 h.2 ht).2 q hq⟩
 ·exact⟨⟨by simp,by simp⟩,⟨by simp,by simp⟩,by simp[bc,de]⟩
def tK(n:Int):Post:=⟨True,.c (.bool true),[]⟩
def Bl:List AD->Option Post
 | [.c (.int .i64 n)]=>some (tK n)
 |_=>none
def Ij:List (Nat×Ctr):=[(13,⟨[],yt⟩),(16,⟨[(0,0)],yw⟩),(17,⟨[],yy⟩),(28,⟨[],Bj⟩),(29,⟨[],Bh⟩)]
def Bn(n:Int):Prop :=
 ((True/\True)/\((True/\True)/\((oq (bw n).1/\True)/\(ae (!decide ((bw n).1=(bw n).1)) (false=true/\True) (ae ((bw n).2 != (bw n).2) (false=true/\True) (((jn (bw n).1/\bc (bw n).1<=(1048576:Nat)/\(0:Int)<=(1:Int)/\(1:Int)<=(536870912:Int))/\FC.len (FC.p3 IntKind.i64 (bq (bw n).1 (1:Int)))=FC.len (FC.p3 IntKind.i64 (bw n).1)/\True)/\(((jn (bq (bw n).1 (1:Int))/\bc (bq (bw n).1 (1:Int))<=(1048576:Nat)/\(0:Int)<=(1:Int)/\(1:Int)<=(536870912:Int))/\True)/\(ae (decide ((if bq (bw n).1 (1:Int)=bq (bq (bw n).1 (1:Int)) (1:Int)then(1:Int)+(↑(bc (bq (bw n).1 (1:Int))):Int)else(-1:Int))<(0:Int))) (false=true/\True) (ae ((if bq (bw n).1 (1:Int)=bq (bq (bw n).1 (1:Int)) (1:Int)then(1:Int)+(↑(bc (bq (bw n).1 (1:Int))):Int)else(-1:Int)) != (1:Int)+(↑(bc (bw n).1):Int)) (false=true/\True) ((True/\True)/\((oq (bw n).1/\True)/\(ae (!decide ((bw n).1=(bw n).1)) (false=true/\True) (ae ((bw n).2 != (bw n).2) (false=true/\True) (((jn (bq (bw n).1 (1:Int))/\bc (bq (bw n).1 (1:Int))<=(1048576:Nat)/\(0:Int)<=(1:Int)/\(1:Int)<=(536870912:Int))/\True)/\(ae (decide ((if bq (bw n).1 (1:Int)=bq (bq (bw n).1 (1:Int)) (1:Int)then(1:Int)+(↑(bc (bq (bw n).1 (1:Int))):Int)else(-1:Int))<(0:Int))) (false=true/\True)
 (ae ((if bq (bw n).1 (1:Int)=bq (bq (bw n).1 (1:Int)) (1:Int)then(1:Int)+(↑(bc (bq (bw n).1 (1:Int))):Int)else(-1:Int)) != (1:Int)+(↑(bc (bw n).1):Int)) ((false=true)/\True) ((true=true)/\True)))))))))))))))))
theorem Rp(n:Int):aY Tryz.prog (aj Ij) am av Tryz.f5 (aP Tryz.f5) [] [.c (.int .i64 n)] (tK n)=Bn n:=by kernel_rfl
theorem Rq(n:Int)(Yh:(tK n).pre):Bn n:=by
 simp only[tK,Bn,aX,true_and,and_true,decide_eq_true_eq,decide_eq_false_iff_not,bne_iff_ne,beq_iff_eq,bne_eq_false_iff_eq,beq_eq_false_iff_ne,Bool.not_eq_true,Bool.not_eq_false,Bool.not_true,Bool.not_false,Bool.not_eq_eq_eq_not,Int.toNat_natCast,List.length_append,List.length_take,List.length_replicate,List.length_set,List.length_map,List.length_drop,List.length_nil,List.length_cons,aN,ab,ac,ah,ax,FC.len]at Yh⊢;obtain⟨c1,c3,c4⟩:=Ro n;have c2:=Ot c3 1
 have c6:¬ (1+(bc (bw n).1:Int)<0):=by omega
 simp[c1,c2,c3,c4,c6,rQ,Oo,Oq]
theorem Rr:Fits Tryz.prog 5 ⟨[],Bl⟩:=by
 refine bf (Γ:=aj Ij) (aD OD (aD OI (aD OL (aD Rl (aD Ri aW))))) Tryz.func5 fun ds p h hp=>?_
 unfold Bl at h;split at h
 ·cases h
  exact⟨am,av,by rw[Rp];exact Rq _  hp⟩
 ·cases h
end Go.Sx
end
section
namespace Go.Sx
open Go.ChangeShapes Go.WideShapes Go.ChangeAt Go.RowKit Go.ChangeMaps Go.Deep
def Ik(n:Int):Prop:=-9223372036854775808<=n/\n<=9223372036854775807
theorem wf_i64'{n:Int}(h:(Lit.int .i64 n).wf=true):Ik n:=by
 simp only[Lit.wf,Bool.and_eq_true,decide_eq_true_eq]at h;exact h
section
variable {H:Type} {enc:TypeId×Value->H} {P:Program} {W:World}
def Il(P:Program)(W:World)(t:TypeId)(v:Value)(d:FC):Prop:=v.oneCell'=true/\bo W v d
theorem Rs{t:TypeId}{fuel:Nat}{v:Value}{x:DataW H×List MemPlace}(ht:P.underlying t=some (.int .i64))(h:DataW.trod enc P W 0 (fun _=>true) true fuel t [v]=some x) :
  ∃n,Ik n/\Il P W t v (.int .i64 n):=by
 obtain⟨n,h1,_,hw⟩:=DataW.trod_int ht h;simp only[List.cons.injEq,and_true]at h1;subst h1;exact⟨n,wf_i64' hw,rfl,rfl⟩
theorem Rt{t:TypeId}{v:Value}{d:FC}(h:Il P W t v d)(i:Nat):cZ P W [] [] [] i (.c d) v:=⟨h.1,h.2⟩
theorem Ru{t:TypeId}{v:Value}{d:DataW H}{p:List MemPlace}(h1:v.cells.toList=[v])(h:DataW.Trod enc P W 0 (fun _=>true) true t v d p):∃n,DataW.trod enc P W 0 (fun _=>true) true n t [v]=some (d,p):=by
 obtain⟨n,hn⟩:=h;exact⟨n,by rw[<-h1];exact hn⟩
theorem Im(hl:laidOutB P=true){W':World}(hb:Below W.heap.size W W'):∀{ts:List TypeId} {vs:List Value} {ds:List (DataW H)} {p:List MemPlace},(∀t∈ts,P.readableRec t=true/\t<P.types.size) ->
  DataW.TrodAll enc P W 0 (fun _=>true) true ts vs ds p->(∀x∈p,x.block<W.heap.size)->DataW.TrodAll enc P W' 0 (fun b=>decide (b<W.heap.size)) true ts vs ds p
 | [],[],[],p,_,h,_=>h
 |t::ts,v::vs,d::ds,p,ht,h,hlt=>by
  obtain⟨p1,p2,h1,h2,rfl⟩:=h;exact⟨p1,p2,Below.trod hl (ht t (by simp)).1 (ht t (by simp)).2 h1 hb (fun x hx=>hlt x (by simp[hx])),Im hl hb (fun t' h'=>ht t' (by simp[h'])) h2 (fun x hx=>hlt x (by simp[hx])),rfl⟩
 | [],[],_::_,_,_,h,_=>h.elim
 | [],_::_,[],_,_,h,_=>h.elim
 | [],_::_,_::_,_,_,h,_=>h.elim
 |_::_,[],[],_,_,h,_=>h.elim
 |_::_,[],_::_,_,_,h,_=>h.elim
 |_::_,_::_,[],_,_,h,_=>h.elim
theorem In{W:World}{base:Nat}{sp:Nat->Bool}{hd:Bool}:∀{ts:List TypeId} {vs:List Value} {ds:List (DataW H)} {p:List MemPlace},DataW.TrodAll enc P W base sp hd ts vs ds p->vs.length=ts.length/\ds.length=ts.length
 | [],[],[],_,_=>⟨rfl,rfl⟩
 |t::ts,v::vs,d::ds,p,h=>by
  obtain⟨p1,p2,_,h2,_⟩:=h;have:=In h2
  simp[this.1,this.2]
 | [],[],_::_,_,h=>h.elim
 | [],_::_,[],_,h=>h.elim
 | [],_::_,_::_,_,h=>h.elim
 |_::_,[],[],_,h=>h.elim
 |_::_,[],_::_,_,h=>h.elim
 |_::_,_::_,[],_,h=>h.elim
end
theorem Rv{C:Checked}{os:Os}{H:Type}{enc:TypeId×Value->H}{f:FuncId}{fn:Func}{s:ChangeSpec}{conds:List PathCond}{kt handsOn:Bool}{tb:TypeId}
  (own:ownKnob C.prog.godebug=none) (started:os.Started) (noInit:C.prog.inits.idxOf? f=none) (hfn:C.prog.funcs[f]?=some fn) (hlaid:laidOutB C.prog=true)
  (hvars:s.vars=[]) (hrd:∀t∈fn.params.toList,C.prog.readableRec t=true/\t<C.prog.types.size) (hres:fn.resultTypes=#[tb]) (htb:C.prog.underlying tb=some .bool)
  (hspec:∀ds:List (DataW H),ds.length=fn.params.toList.length->s.fn H ds={ results:=[.lit (.bool true)],args:=ds,vars:=[] })
  (witness:∃(w:World) (tape:Tape) (i:Input),w.os=os/\(w.forCall tape i).Shaped C.prog/\i.vars=[]/\Input.okWide C.prog (w.forCall tape i) .any w.heap.size f i /\
   s.pre6 enc C.prog fn conds false (w.forCall tape i).memory i.args/\({}:Assume).holds C.prog (lone (Frame.enter C.prog f i.args .normal) [] (w.forCall tape i)))
  {ct:List AD->Option Post} (fits:Fits C.prog f ⟨[],ct⟩)
  (hopen:∀(W:World) (base:Nat) (vs:List Value) (ds:List (DataW H)) (p:List MemPlace),DataW.TrodAll enc C.prog W 0 (fun _=>true) true fn.params.toList vs ds p ->
   (∀(j:Nat) t v,fn.params[j]?=some t->vs[j]?=some v->Value.okWide C.prog W .any base t v) ->
   ∃(ads:List AD) (pre:Prop),ct ads=some ⟨pre,.c (.bool true),[]⟩/\pre/\vs.length=ads.length/\∀(i:Nat) (d:AD),ads[i]?=some d->∃v,vs[i]?=some v/\cZ C.prog W [] [] [] i d v) :
  ReturnsInHanded {} C os f .any (s.pre6 enc C.prog fn conds false) (s.post enc C.prog fn false kt handsOn false):=by
 refine returnsInHanded_of_change own started noInit hfn witness ?_
 intro W base args ds gs before hval hW _ _
 have hW':=hW
 obtain⟨p,q,hA,hV,rfl,hfz,hnd⟩:=hW;rw[hvars]at hV;obtain⟨rfl,rfl⟩:=trodVars_none hV;obtain⟨ads,pre,h1,h2,h3,h4⟩:=hopen W base args.toList ds p hA (fun j t v ht hv=>hval j t v ht (by simpa using hv))
 have hrun:=fits.run W W args.toList ads _ [] [] h1 h2 h3 rfl rfl rfl (by simp) (by simp) (by simp) (fun q u hq=>⟨hq,by simp⟩) h4
 refine hrun.mono fun e W' ⟨v,ms',img,wG,he,haft,hms,_,_,hret⟩=>?_
 subst he;have hv:v=.bool true:=hret.val
 subst hv;have hB:Below W.heap.size W W':=haft.below
 have hlt:∀x∈p,x.block<W.heap.size:=fun x hx=>by simpa using hW'.lt x (by simp[hx])
 have hsp:=hspec ds (In hA).2
 refine⟨_,rfl,ds,[],p++[],[],p,[],hW',?_,?_,?_,hB.frame _,fun h=>by cases h⟩
 ·rw[List.append_nil,hsp,hres]
  exact trodAll_cons_mk (shut_bool htb _) trodAll_mk0
 ·rw[List.append_nil,hsp]
  exact Im hlaid hB hrd hA hlt
 ·rw[List.append_nil,hsp,hvars]
  rfl
end Go.Sx
end
