/- BrdA -/
import Derived.Test.YtkmldclpaniclaaGreatNamD
import Derived.Test.YtkmldclpaniclaaGreatEqt
import Derived.Test.YtkmldclpaniclaaGreatDrawY
import Derived.Test.YtkmldclpaniclaaGreatCirB
set_option linter.unusedSimpArgs false
set_option linter.unusedVariables false
set_option linter.defProp false
open Go Go.Proofs
namespace Go.Sx
def bW(n:Int):D3 :=
 ai n::((if n=4 then [bq (ai 2) (ai 2)]else if n=8 then [bq (ai 2) (ai 4),bq (ai 2) (bq (ai 2) (ai 2))]else []) ++
  ((if 6<=n/\n.tmod 2=0 then [cu (n.tdiv 2) 0]else [])++(if n=8 then [cu (n.tdiv 2) (n.tdiv 4)]else [])))
theorem xl{n:Int}(h:1<=n):((ai n).length:Int)=n:=by rw[ai,pk];omega
theorem IZ{n:Int}(h:1<=n):aA (ai n).length (ai n):=by
 have e:=xl h
 refine⟨rfl,fun x hx=>?_⟩
 have r:(ai n).getD x []=au n.toNat (d8 n x):=pm _ _ _ (by omega)
 refine⟨by rw[r,ep];omega,fun y hy=>?_⟩
 have v:en (ai n) x y=d8 n x y:=by unfold en;rw[r,er _ _ _ (by omega)]
 have a:=DM (a:=(x:Int)+(y:Int)) n (by omega)
 have b:=DN ((x:Int)+(y:Int)) (b:=n) (by omega)
 rw[v,d8];omega
theorem I0{t:D2}(h:cj t=true):aA t.length t:=by
 obtain⟨_,_,q⟩:=iN h;exact⟨rfl,fun x hx=>⟨(q x hx).1,fun y hy=>by
  have:=(q x hx).2 y hy
  have e2:en t x y=(t.getD x []).getD y 0:=rfl
  omega⟩⟩
def rz(n:Int):Post:=⟨1<=n/\n<=8,.c (.tr [22,62,2] (.r3 .i64 (bW n))),[]⟩
def xm:List AD->Option Post
 | [.c (.int .i64 n)]=>some (rz n)
 |_=>none
def I2(t:Nat):Bool:=[2000009,2000017,2000031,2000039,2000047,2000060,2000074,2000088].contains t
def I3:List (Nat×Ctr):=[(167,⟨[],Fd⟩),(168,⟨[],Ff⟩),(169,⟨[],Fh⟩)]
def xn(n:Int):Prop :=
 ab (n == (12:Int)) False (ai n::([]:D3)++bq (ai (2:Int)) (ai (4:Int))::bq (ai (2:Int)) (bq (ai (2:Int)) (ai (2:Int)))::([]:D3)++cu (Int.tdiv n (2:Int)) (Int.tdiv n (4:Int))::([]:D3)=bW n/\True)
def xo(n:Int):=(am (FC.len (FC.r3 IntKind.i64 (ai n::([]:D3)++bq (ai (2:Int)) (ai (4:Int))::bq (ai (2:Int)) (bq (ai (2:Int)) (ai (2:Int)))::([]:D3)))+FC.len (FC.r3 IntKind.i64 (cu (Int.tdiv n (2:Int)) (Int.tdiv n (4:Int))::([]:D3)))))
def xp(n:Int):Prop :=
 ab (n == (8:Int)) (((2:Int)≠(0:Int)/\af (Int.tdiv n (2:Int)))/\((4:Int)≠(0:Int)/\af (Int.tdiv n (4:Int)))/\(((1:Int)<=Int.tdiv n (2:Int)/\Int.tdiv n (2:Int)<=(12:Int)/\(0:Int)<=Int.tdiv n (4:Int)/\Int.tdiv n (4:Int)<=(12:Int))/\True)/\xo n/\xn n) (ab (n == (12:Int)) (((2:Int)≠(0:Int)/\af (Int.tdiv n (2:Int)))/\((4:Int)≠(0:Int)/\af (Int.tdiv n (4:Int)))/\(((1:Int)<=Int.tdiv n (2:Int)/\Int.tdiv n (2:Int)<=(12:Int)/\(0:Int)<=Int.tdiv n (4:Int)/\Int.tdiv n (4:Int)<=(12:Int))/\True)/\xo n/\xn n) (ab (n == (12:Int)) False (ai n::([]:D3)++bq (ai (2:Int)) (ai (4:Int))::bq (ai (2:Int)) (bq (ai (2:Int)) (ai (2:Int)))::([]:D3)=bW n/\True)))
def xq(n:Int):Prop :=
 ab (n == (12:Int)) False (ai n::([]:D3)++bq (ai (2:Int)) (ai (2:Int))::([]:D3)++cu (Int.tdiv n (2:Int)) (Int.tdiv n (4:Int))::([]:D3)=bW n/\True)
def xr(n:Int):=(am (FC.len (FC.r3 IntKind.i64 (ai n::([]:D3)++bq (ai (2:Int)) (ai (2:Int))::([]:D3)))+FC.len (FC.r3 IntKind.i64 (cu (Int.tdiv n (2:Int)) (Int.tdiv n (4:Int))::([]:D3)))))
def xt(n:Int):Prop :=
 ab (n == (8:Int)) (((2:Int)≠(0:Int)/\af (Int.tdiv n (2:Int)))/\((4:Int)≠(0:Int)/\af (Int.tdiv n (4:Int)))/\(((1:Int)<=Int.tdiv n (2:Int)/\Int.tdiv n (2:Int)<=(12:Int)/\(0:Int)<=Int.tdiv n (4:Int)/\Int.tdiv n (4:Int)<=(12:Int))/\True)/\xr n/\xq n) (ab (n == (12:Int)) (((2:Int)≠(0:Int)/\af (Int.tdiv n (2:Int)))/\((4:Int)≠(0:Int)/\af (Int.tdiv n (4:Int)))/\(((1:Int)<=Int.tdiv n (2:Int)/\Int.tdiv n (2:Int)<=(12:Int)/\(0:Int)<=Int.tdiv n (4:Int)/\Int.tdiv n (4:Int)<=(12:Int))/\True)/\xr n/\xq n) (ab (n == (12:Int)) False (ai n::([]:D3)++bq (ai (2:Int)) (ai (2:Int))::([]:D3)=bW n/\True)))
def xu(n:Int):Prop :=
 ab (n == (12:Int)) False (ai n::([]:D3)++bq (ai (3:Int)) (ai (3:Int))::([]:D3)++cu (Int.tdiv n (2:Int)) (Int.tdiv n (4:Int))::([]:D3)=bW n/\True)
def xv(n:Int):=(am (FC.len (FC.r3 IntKind.i64 (ai n::([]:D3)++bq (ai (3:Int)) (ai (3:Int))::([]:D3)))+FC.len (FC.r3 IntKind.i64 (cu (Int.tdiv n (2:Int)) (Int.tdiv n (4:Int))::([]:D3)))))
def xw(n:Int):Prop :=
 ab (n == (8:Int)) (((2:Int)≠(0:Int)/\af (Int.tdiv n (2:Int)))/\((4:Int)≠(0:Int)/\af (Int.tdiv n (4:Int)))/\(((1:Int)<=Int.tdiv n (2:Int)/\Int.tdiv n (2:Int)<=(12:Int)/\(0:Int)<=Int.tdiv n (4:Int)/\Int.tdiv n (4:Int)<=(12:Int))/\True)/\xv n/\xu n) (ab (n == (12:Int)) (((2:Int)≠(0:Int)/\af (Int.tdiv n (2:Int)))/\((4:Int)≠(0:Int)/\af (Int.tdiv n (4:Int)))/\(((1:Int)<=Int.tdiv n (2:Int)/\Int.tdiv n (2:Int)<=(12:Int)/\(0:Int)<=Int.tdiv n (4:Int)/\Int.tdiv n (4:Int)<=(12:Int))/\True)/\xv n/\xu n) (ab (n == (12:Int)) False (ai n::([]:D3)++bq (ai (3:Int)) (ai (3:Int))::([]:D3)=bW n/\True)))
def xx(n:Int):Prop :=
 ab (n == (12:Int)) False (ai n::([]:D3)++bq (ai (2:Int)) (ai (6:Int))::([]:D3)++cu (Int.tdiv n (2:Int)) (Int.tdiv n (4:Int))::([]:D3)=bW n/\True)
def xy(n:Int):=(am (FC.len (FC.r3 IntKind.i64 (ai n::([]:D3)++bq (ai (2:Int)) (ai (6:Int))::([]:D3)))+FC.len (FC.r3 IntKind.i64 (cu (Int.tdiv n (2:Int)) (Int.tdiv n (4:Int))::([]:D3)))))
def xz(n:Int):Prop :=
 ab (n == (8:Int)) (((2:Int)≠(0:Int)/\af (Int.tdiv n (2:Int)))/\((4:Int)≠(0:Int)/\af (Int.tdiv n (4:Int)))/\(((1:Int)<=Int.tdiv n (2:Int)/\Int.tdiv n (2:Int)<=(12:Int)/\(0:Int)<=Int.tdiv n (4:Int)/\Int.tdiv n (4:Int)<=(12:Int))/\True)/\xy n/\xx n) (ab (n == (12:Int)) (((2:Int)≠(0:Int)/\af (Int.tdiv n (2:Int)))/\((4:Int)≠(0:Int)/\af (Int.tdiv n (4:Int)))/\(((1:Int)<=Int.tdiv n (2:Int)/\Int.tdiv n (2:Int)<=(12:Int)/\(0:Int)<=Int.tdiv n (4:Int)/\Int.tdiv n (4:Int)<=(12:Int))/\True)/\xy n/\xx n) (ab (n == (12:Int)) False (ai n::([]:D3)++bq (ai (2:Int)) (ai (6:Int))::([]:D3)=bW n/\True)))
def xA(n:Int):=(am (FC.len (FC.r3 IntKind.i64 (ai n::([]:D3)))+FC.len (FC.r3 IntKind.i64 (cu (Int.tdiv n (2:Int)) (Int.tdiv n (4:Int))::([]:D3)))))
def xB(n:Int):Prop :=
 ab (n == (8:Int)) (((2:Int)≠(0:Int)/\af (Int.tdiv n (2:Int)))/\((4:Int)≠(0:Int)/\af (Int.tdiv n (4:Int)))/\(((1:Int)<=Int.tdiv n (2:Int)/\Int.tdiv n (2:Int)<=(12:Int)/\(0:Int)<=Int.tdiv n (4:Int)/\Int.tdiv n (4:Int)<=(12:Int))/\True)/\xA n/\ab (n == (12:Int)) False (ai n::([]:D3)++cu (Int.tdiv n (2:Int)) (Int.tdiv n (4:Int))::([]:D3)=bW n/\True)) (ab (n == (12:Int)) (((2:Int)≠(0:Int)/\af (Int.tdiv n (2:Int)))/\((4:Int)≠(0:Int)/\af (Int.tdiv n (4:Int)))/\(((1:Int)<=Int.tdiv n (2:Int)/\Int.tdiv n (2:Int)<=(12:Int)/\(0:Int)<=Int.tdiv n (4:Int)/\Int.tdiv n (4:Int)<=(12:Int))/\True)/\xA n/\ab (n == (12:Int)) False (ai n::([]:D3)++cu (Int.tdiv n (2:Int)) (Int.tdiv n (4:Int))::([]:D3)=bW n/\True)) (ab (n == (12:Int)) False (ai n::([]:D3)=bW n/\True)))
def xC(n:Int):Prop :=
 ab (n == (12:Int)) False (ai n::([]:D3)++bq (ai (2:Int)) (ai (4:Int))::bq (ai (2:Int)) (bq (ai (2:Int)) (ai (2:Int)))::([]:D3)++cu (Int.tdiv n (2:Int)) (0:Int)::([]:D3)++cu (Int.tdiv n (2:Int)) (Int.tdiv n (4:Int))::([]:D3)=bW n/\True)
def xD(n:Int):Prop :=
 ab (n == (12:Int)) False (ai n::([]:D3)++bq (ai (2:Int)) (ai (2:Int))::([]:D3)++cu (Int.tdiv n (2:Int)) (0:Int)::([]:D3)++cu (Int.tdiv n (2:Int)) (Int.tdiv n (4:Int))::([]:D3)=bW n/\True)
def xE(n:Int):Prop :=
 ab (n == (12:Int)) False (ai n::([]:D3)++bq (ai (3:Int)) (ai (3:Int))::([]:D3)++cu (Int.tdiv n (2:Int)) (0:Int)::([]:D3)++cu (Int.tdiv n (2:Int)) (Int.tdiv n (4:Int))::([]:D3)=bW n/\True)
def xF(n:Int):Prop :=
 ab (n == (12:Int)) False (ai n::([]:D3)++bq (ai (2:Int)) (ai (6:Int))::([]:D3)++cu (Int.tdiv n (2:Int)) (0:Int)::([]:D3)++cu (Int.tdiv n (2:Int)) (Int.tdiv n (4:Int))::([]:D3)=bW n/\True)
def xG(n:Int):Prop :=
 ab (n == (12:Int)) False (ai n::([]:D3)++cu (Int.tdiv n (2:Int)) (0:Int)::([]:D3)++cu (Int.tdiv n (2:Int)) (Int.tdiv n (4:Int))::([]:D3)=bW n/\True)
def lZ(n:Int):=(FC.r3 IntKind.i64 (cu (Int.tdiv n (2:Int)) (Int.tdiv n (4:Int))::([]:D3)))
def nE(n:Int):=(FC.r3 IntKind.i64 (cu (Int.tdiv n (2:Int)) (0:Int)::([]:D3)))
def xH(n:Int):=(am (FC.len (FC.r3 IntKind.i64 (ai n::([]:D3)++bq (ai (2:Int)) (ai (4:Int))::bq (ai (2:Int)) (bq (ai (2:Int)) (ai (2:Int)))::([]:D3)++cu (Int.tdiv n (2:Int)) (0:Int)::([]:D3)))+FC.len (lZ n)))
def xI(n:Int):=(am (FC.len (FC.r3 IntKind.i64 (ai n::([]:D3)++bq (ai (2:Int)) (ai (2:Int))::([]:D3)++cu (Int.tdiv n (2:Int)) (0:Int)::([]:D3)))+FC.len (lZ n)))
def xJ(n:Int):=(am (FC.len (FC.r3 IntKind.i64 (ai n::([]:D3)++bq (ai (3:Int)) (ai (3:Int))::([]:D3)++cu (Int.tdiv n (2:Int)) (0:Int)::([]:D3)))+FC.len (lZ n)))
def xK(n:Int):=(am (FC.len (FC.r3 IntKind.i64 (ai n::([]:D3)++bq (ai (2:Int)) (ai (6:Int))::([]:D3)++cu (Int.tdiv n (2:Int)) (0:Int)::([]:D3)))+FC.len (lZ n)))
def kP:=(aA ((ai (2:Int)).length) (ai (2:Int)))
def nF(n:Int):=(FC.r3 IntKind.i64 (ai n::([]:D3)))
def xL(n:Int):Prop :=
 (((((1:Int)<=n)/\(n<=(12:Int)))/\True)/\(ab (n == (4:Int)) (((((1:Int)<=(2:Int))/\((2:Int)<=(12:Int)))/\True)/\(((((1:Int)<=(2:Int))/\((2:Int)<=(12:Int)))/\True)/\((((kP)/\((kP)/\(((1:Nat)<=(ai (2:Int)).length)/\(((ai (2:Int)).length<=(144:Nat))/\((ai (2:Int)).length<=(144:Nat))))))/\True)/\((am (FC.len (nF n)+FC.len (FC.r3 IntKind.i64 (bq (ai (2:Int)) (ai (2:Int))::([]:D3)))))/\(ab (decide ((6:Int)<=n)) (((2:Int)≠(0:Int))/\(ab (Int.tmod n (2:Int) == (0:Int)) ((((2:Int)≠(0:Int))/\(af (Int.tdiv n (2:Int))))/\(((((1:Int)<=Int.tdiv n (2:Int))/\((Int.tdiv n (2:Int)<=(12:Int))/\(((0:Int)<=(0:Int))/\((0:Int)<=(12:Int)))))/\True)/\((am (FC.len (FC.r3 IntKind.i64 (ai n::([]:D3)++bq (ai (2:Int)) (ai (2:Int))::([]:D3)))+FC.len (nE n)))/\(ab (n == (8:Int)) ((((2:Int)≠(0:Int))/\(af (Int.tdiv n (2:Int))))/\((((4:Int)≠(0:Int))/\(af (Int.tdiv n (4:Int))))/\(((((1:Int)<=Int.tdiv n (2:Int))/\((Int.tdiv n (2:Int)<=(12:Int))/\(((0:Int)<=Int.tdiv n (4:Int))/\(Int.tdiv n (4:Int)<=(12:Int)))))/\True)/\((xI n)/\(xD n))))) (ab (n == (12:Int)) ((((2:Int)≠(0:Int))/\(af (Int.tdiv n (2:Int))))/\((((4:Int)≠(0:Int))/\(af (Int.tdiv n (4:Int))))/\(((((1:Int)<=Int.tdiv n (2:Int))/\((Int.tdiv n (2:Int)<=(12:Int))/\(((0:Int)<=Int.tdiv n (4:Int))/\(Int.tdiv n (4:Int)<=(12:Int)))))/\True)/\((xI n)/\(xD n))))) (ab (n == (12:Int)) False
 ((ai n::([]:D3)++bq (ai (2:Int)) (ai (2:Int))::([]:D3)++cu (Int.tdiv n (2:Int)) (0:Int)::([]:D3)=bW n)/\True))))))) (xt n))) (xt n)))))) (ab (n == (8:Int)) (((((1:Int)<=(2:Int))/\((2:Int)<=(12:Int)))/\True)/\(((((1:Int)<=(2:Int))/\((2:Int)<=(12:Int)))/\True)/\((((kP)/\((kP)/\(((1:Nat)<=(ai (2:Int)).length)/\(((ai (2:Int)).length<=(144:Nat))/\((ai (2:Int)).length<=(144:Nat))))))/\True)/\(((((1:Int)<=(2:Int))/\((2:Int)<=(12:Int)))/\True)/\(((((1:Int)<=(4:Int))/\((4:Int)<=(12:Int)))/\True)/\((((kP)/\((aA ((ai (4:Int)).length) (ai (4:Int)))/\(((1:Nat)<=(ai (4:Int)).length)/\(((ai (2:Int)).length<=(144:Nat))/\((ai (4:Int)).length<=(144:Nat))))))/\True)/\(((((1:Int)<=(2:Int))/\((2:Int)<=(12:Int)))/\True)/\((((kP)/\((aA ((bq (ai (2:Int)) (ai (2:Int))).length) (bq (ai (2:Int)) (ai (2:Int))))/\(((1:Nat)<=(bq (ai (2:Int)) (ai (2:Int))).length)/\(((ai (2:Int)).length<=(144:Nat))/\((bq (ai (2:Int)) (ai (2:Int))).length<=(144:Nat))))))/\True)/\((am (FC.len (nF n)+FC.len (FC.r3 IntKind.i64 (bq (ai (2:Int)) (ai (4:Int))::bq (ai (2:Int)) (bq (ai (2:Int)) (ai (2:Int)))::([]:D3)))))/\(ab (decide ((6:Int)<=n)) (((2:Int)≠(0:Int))/\(ab (Int.tmod n (2:Int) == (0:Int)) ((((2:Int)≠(0:Int))/\(af (Int.tdiv n (2:Int))))/\(((((1:Int)<=Int.tdiv n (2:Int))/\((Int.tdiv n (2:Int)<=(12:Int)) /\
 (((0:Int)<=(0:Int))/\((0:Int)<=(12:Int)))))/\True)/\((am (FC.len (FC.r3 IntKind.i64 (ai n::([]:D3)++bq (ai (2:Int)) (ai (4:Int))::bq (ai (2:Int)) (bq (ai (2:Int)) (ai (2:Int)))::([]:D3)))+FC.len (nE n)))/\(ab (n == (8:Int)) ((((2:Int)≠(0:Int))/\(af (Int.tdiv n (2:Int))))/\((((4:Int)≠(0:Int))/\(af (Int.tdiv n (4:Int))))/\(((((1:Int)<=Int.tdiv n (2:Int))/\((Int.tdiv n (2:Int)<=(12:Int))/\(((0:Int)<=Int.tdiv n (4:Int))/\(Int.tdiv n (4:Int)<=(12:Int)))))/\True)/\((xH n)/\(xC n))))) (ab (n == (12:Int)) ((((2:Int)≠(0:Int))/\(af (Int.tdiv n (2:Int))))/\((((4:Int)≠(0:Int))/\(af (Int.tdiv n (4:Int))))/\(((((1:Int)<=Int.tdiv n (2:Int))/\((Int.tdiv n (2:Int)<=(12:Int))/\(((0:Int)<=Int.tdiv n (4:Int))/\(Int.tdiv n (4:Int)<=(12:Int)))))/\True)/\((xH n)/\(xC n))))) (ab (n == (12:Int)) False ((ai n::([]:D3)++bq (ai (2:Int)) (ai (4:Int))::bq (ai (2:Int)) (bq (ai (2:Int)) (ai (2:Int)))::([]:D3)++cu (Int.tdiv n (2:Int)) (0:Int)::([]:D3)=bW n)/\True))))))) (xp n))) (xp n))))))))))) (ab (n == (9:Int)) (((((1:Int)<=(3:Int))/\((3:Int)<=(12:Int)))/\True)/\(((((1:Int)<=(3:Int))/\((3:Int)<=(12:Int)))/\True)/\((((aA ((ai (3:Int)).length) (ai (3:Int)))/\((aA ((ai (3:Int)).length) (ai (3:Int)))/\(((1:Nat)<=(ai (3:Int)).length)/\(((ai (3:Int)).length<=(144:Nat)) /\
 ((ai (3:Int)).length<=(144:Nat))))))/\True)/\((am (FC.len (nF n)+FC.len (FC.r3 IntKind.i64 (bq (ai (3:Int)) (ai (3:Int))::([]:D3)))))/\(ab (decide ((6:Int)<=n)) (((2:Int)≠(0:Int))/\(ab (Int.tmod n (2:Int) == (0:Int)) ((((2:Int)≠(0:Int))/\(af (Int.tdiv n (2:Int))))/\(((((1:Int)<=Int.tdiv n (2:Int))/\((Int.tdiv n (2:Int)<=(12:Int))/\(((0:Int)<=(0:Int))/\((0:Int)<=(12:Int)))))/\True)/\((am (FC.len (FC.r3 IntKind.i64 (ai n::([]:D3)++bq (ai (3:Int)) (ai (3:Int))::([]:D3)))+FC.len (nE n)))/\(ab (n == (8:Int)) ((((2:Int)≠(0:Int))/\(af (Int.tdiv n (2:Int))))/\((((4:Int)≠(0:Int))/\(af (Int.tdiv n (4:Int))))/\(((((1:Int)<=Int.tdiv n (2:Int))/\((Int.tdiv n (2:Int)<=(12:Int))/\(((0:Int)<=Int.tdiv n (4:Int))/\(Int.tdiv n (4:Int)<=(12:Int)))))/\True)/\((xJ n)/\(xE n))))) (ab (n == (12:Int)) ((((2:Int)≠(0:Int))/\(af (Int.tdiv n (2:Int))))/\((((4:Int)≠(0:Int))/\(af (Int.tdiv n (4:Int))))/\(((((1:Int)<=Int.tdiv n (2:Int))/\((Int.tdiv n (2:Int)<=(12:Int))/\(((0:Int)<=Int.tdiv n (4:Int))/\(Int.tdiv n (4:Int)<=(12:Int)))))/\True)/\((xJ n)/\(xE n))))) (ab (n == (12:Int)) False ((ai n::([]:D3)++bq (ai (3:Int)) (ai (3:Int))::([]:D3)++cu (Int.tdiv n (2:Int)) (0:Int)::([]:D3)=bW n)/\True))))))) (xw n))) (xw n)))))) (ab (n == (12:Int))
 (((((1:Int)<=(2:Int))/\((2:Int)<=(12:Int)))/\True)/\(((((1:Int)<=(6:Int))/\((6:Int)<=(12:Int)))/\True)/\((((kP)/\((aA ((ai (6:Int)).length) (ai (6:Int)))/\(((1:Nat)<=(ai (6:Int)).length)/\(((ai (2:Int)).length<=(144:Nat))/\((ai (6:Int)).length<=(144:Nat))))))/\True)/\((am (FC.len (nF n)+FC.len (FC.r3 IntKind.i64 (bq (ai (2:Int)) (ai (6:Int))::([]:D3)))))/\(ab (decide ((6:Int)<=n)) (((2:Int)≠(0:Int))/\(ab (Int.tmod n (2:Int) == (0:Int)) ((((2:Int)≠(0:Int))/\(af (Int.tdiv n (2:Int))))/\(((((1:Int)<=Int.tdiv n (2:Int))/\((Int.tdiv n (2:Int)<=(12:Int))/\(((0:Int)<=(0:Int))/\((0:Int)<=(12:Int)))))/\True)/\((am (FC.len (FC.r3 IntKind.i64 (ai n::([]:D3)++bq (ai (2:Int)) (ai (6:Int))::([]:D3)))+FC.len (nE n)))/\(ab (n == (8:Int)) ((((2:Int)≠(0:Int))/\(af (Int.tdiv n (2:Int))))/\((((4:Int)≠(0:Int))/\(af (Int.tdiv n (4:Int))))/\(((((1:Int)<=Int.tdiv n (2:Int))/\((Int.tdiv n (2:Int)<=(12:Int))/\(((0:Int)<=Int.tdiv n (4:Int))/\(Int.tdiv n (4:Int)<=(12:Int)))))/\True)/\((xK n)/\(xF n))))) (ab (n == (12:Int)) ((((2:Int)≠(0:Int))/\(af (Int.tdiv n (2:Int))))/\((((4:Int)≠(0:Int))/\(af (Int.tdiv n (4:Int))))/\(((((1:Int)<=Int.tdiv n (2:Int))/\((Int.tdiv n (2:Int)<=(12:Int))/\(((0:Int)<=Int.tdiv n (4:Int))/\(Int.tdiv n (4:Int)<=(12:Int)))))/\True)/\((xK n)/\(xF n))))) (ab (n == (12:Int)) False
 ((ai n::([]:D3)++bq (ai (2:Int)) (ai (6:Int))::([]:D3)++cu (Int.tdiv n (2:Int)) (0:Int)::([]:D3)=bW n)/\True))))))) (xz n))) (xz n)))))) (ab (decide ((6:Int)<=n)) (((2:Int)≠(0:Int))/\(ab (Int.tmod n (2:Int) == (0:Int)) ((((2:Int)≠(0:Int))/\(af (Int.tdiv n (2:Int))))/\(((((1:Int)<=Int.tdiv n (2:Int))/\((Int.tdiv n (2:Int)<=(12:Int))/\(((0:Int)<=(0:Int))/\((0:Int)<=(12:Int)))))/\True)/\((am (FC.len (nF n)+FC.len (nE n)))/\(ab (n == (8:Int)) ((((2:Int)≠(0:Int))/\(af (Int.tdiv n (2:Int))))/\((((4:Int)≠(0:Int))/\(af (Int.tdiv n (4:Int))))/\(((((1:Int)<=Int.tdiv n (2:Int))/\((Int.tdiv n (2:Int)<=(12:Int))/\(((0:Int)<=Int.tdiv n (4:Int))/\(Int.tdiv n (4:Int)<=(12:Int)))))/\True)/\((am (FC.len (FC.r3 IntKind.i64 (ai n::([]:D3)++cu (Int.tdiv n (2:Int)) (0:Int)::([]:D3)))+FC.len (lZ n)))/\(xG n))))) (ab (n == (12:Int)) ((((2:Int)≠(0:Int))/\(af (Int.tdiv n (2:Int))))/\((((4:Int)≠(0:Int))/\(af (Int.tdiv n (4:Int))))/\(((((1:Int)<=Int.tdiv n (2:Int))/\((Int.tdiv n (2:Int)<=(12:Int))/\(((0:Int)<=Int.tdiv n (4:Int))/\(Int.tdiv n (4:Int)<=(12:Int)))))/\True)/\((am (FC.len (FC.r3 IntKind.i64 (ai n::([]:D3)++cu (Int.tdiv n (2:Int)) (0:Int)::([]:D3)))+FC.len (lZ n)))/\(xG n))))) (ab (n == (12:Int)) False
 ((ai n::([]:D3)++cu (Int.tdiv n (2:Int)) (0:Int)::([]:D3)=bW n)/\True))))))) (xB n))) (xB n)))))))
theorem RB(n:Int):aM Tryz.prog (ah I3) I2 ar Tryz.f126 (aF Tryz.f126) [] [.c (.int .i64 n)] (rz n)=xL n:=by kernel_rfl
theorem RD(n:Int)(ξ:(rz n).pre):xL n:=by
 simp only[rz,xL,xG,xF,xE,xD,xC,xB,xx,xz,xu,xw,xq,xt,xn,xp,xo,xr,xv,xy,xA,lZ,nE,xH,xI,xJ,xK,kP,nF,aJ]at ξ⊢;obtain⟨h1,h2⟩:=ξ;have l2:(ai 2).length=2:=by have:=xl (n:=2) (by omega);omega
 have l4:(ai 4).length=4:=by have:=xl (n:=4) (by omega);omega
 have t2:=IZ (n:=2) (by omega)
 have t4:=IZ (n:=4) (by omega)
 have l22:(bq (ai 2) (ai 2)).length=4:=by rw[bq,pk,l2]
 have t22:aA 4 (bq (ai 2) (ai 2)):=by
  have:=I0 (t:=bq (ai 2) (ai 2)) (by decide +kernel)
  rw[l22]at this;exact this
 rw[l2]at t2;rw[l4]at t4;have:n=1\/n=2\/n=3\/n=4\/n=5\/n=6\/n=7\/n=8:=by omega
 rcases this with rfl|rfl|rfl|rfl|rfl|rfl|rfl|rfl<;>simp[l2,t2,l4,t4,l22,t22,bW,FC.len]
theorem RE:Fits Tryz.prog 126 ⟨[],xm⟩:=by
 refine aU (Γ:=ah I3) (aw Wl (aw Wp (aw Ws aI))) Tryz.func126 fun ds p h hp=>?_
 unfold xm at h;split at h
 ·cases h
  exact⟨I2,ar,by rw[RB];exact RD _  hp⟩
 ·cases h
theorem RF{n:Int}(h1:1<=n)(h2:n<=8):∀t∈bW n,(t.length:Int)=n/\cj t=true:=by
 have:n=1\/n=2\/n=3\/n=4\/n=5\/n=6\/n=7\/n=8:=by omega
 rcases this with rfl|rfl|rfl|rfl|rfl|rfl|rfl|rfl<;>decide +kernel
theorem RG{n:Int}(h1:1<=n)(h2:n<=8){t:D2}(ht:t∈bW n):(t.length:Int)=n/\cj t=true/\aA t.length t:=by
 obtain⟨a,b⟩:=RF h1 h2 t ht;exact⟨a,b,I0 b⟩
def dv(l:D1):D1:=0::l.map fun x=>x+1
def bd(η:D1)(a h ζ:Int):Dr :=
 ((bW (1+bz η a h ζ)).getD (bz η (bu η.length a ζ) (bU h ζ) ((bW (1+bz η a h ζ)).length:Int)).toNat [],
  bu η.length (bu η.length a ζ) ((bW (1+bz η a h ζ)).length:Int),bU (bU h ζ) ((bW (1+bz η a h ζ)).length:Int))
def cN(η:D1)(d:Dr):D1×Int×Int:=bo η (bu η.length d.2.1 2) (bU d.2.2 2) ((d.1.length:Int)-1).toNat
def js(η:D1)(d:Dr):Dr :=
 if 1<(d.1.length:Int)then
  if bz η d.2.1 d.2.2 2=0 then(bn d.1 (dv (cN η d).1) d.1.length,(cN η d).2)else(d.1,bu η.length d.2.1 2,bU d.2.2 2)
 else d
def bN(η:D1)(a h ζ:Int):Dr:=js η (bd η a h ζ)
def nG(η:D1)(m:Nat)(d:Dr):Prop:=1<=d.1.length/\d.1.length<=m/\aA d.1.length d.1/\0<=d.2.1/\d.2.1<=(η.length:Int)
theorem xM{n:Nat}{t:D2}(h:aA n t):iQ (n:Int) t:=⟨by rw[h.1],fun i hi=>by
 have e:=h.1
 have r:=h.2 i (by omega)
 refine⟨by rw[r.1],fun j hj=>?_⟩
 have v:=r.2 j (by omega)
 have e2:en t i j=(t.getD i []).getD j 0:=rfl
 omega⟩
theorem RH{n:Nat}{t:D2}(h:iQ (n:Int) t):aA n t:=by
 have e:=h.1
 refine⟨by omega,fun i hi=>?_⟩
 have r:=h.2 i (by omega)
 refine⟨by omega,fun j hj=>?_⟩
 have v:=r.2 j (by omega)
 have e2:en t i j=(t.getD i []).getD j 0:=rfl
 omega
theorem I4{η:D1}(hb:cO η){a h ζ:Int}(h0:0<=a)(h1:a<=(η.length:Int))(h2:1<=ζ)(h3:ζ<=8):nG η ζ.toNat (bd η a h ζ)/\(bd η a h ζ).1∈bW (1+bz η a h ζ)/\0<=bz η (bu η.length a ζ) (bU h ζ) ((bW (1+bz η a h ζ)).length:Int)/\bz η (bu η.length a ζ) (bU h ζ) ((bW (1+bz η a h ζ)).length:Int)<((bW (1+bz η a h ζ)).length:Int):=by
 have v:=mh hb a h h2
 have s:=il (n:=ζ) h0 h1
 have p:1<=(bW (1+bz η a h ζ)).length:=by simp[bW]
 have w:=mh hb (bu η.length a ζ) (bU h ζ) (n:=((bW (1+bz η a h ζ)).length:Int)) (by omega)
 have m:(bd η a h ζ).1∈bW (1+bz η a h ζ):=bI _ _ _ (by omega)
 obtain⟨q1,q2,q3⟩:=RG (by omega) (by omega) m
 have s2:=il (n:=((bW (1+bz η a h ζ)).length:Int)) s.1 s.2
 exact⟨⟨by omega,by omega,q3,s2.1,s2.2⟩,m,w.1,by omega⟩
theorem I5{l:D1}{n:Nat}(hl:l.length+1=n)(hr:∀i,i<l.length->0<=l.getD i 0/\l.getD i 0<=(n:Int)-2):(dv l).length=n/\∀i,i<(dv l).length->0<=(dv l).getD i 0/\(dv l).getD i 0<=(n:Int)-1:=by
 have L:(dv l).length=n:=by simp[dv];omega
 refine⟨L,fun i hi=>?_⟩
 cases i with
 |zero=>simp[dv];omega
 |succ i =>
  have h:i<l.length:=by omega
  have e:(dv l).getD (i+1) 0=l.getD i 0+1:=by
   show(l.map fun x=>x+1).getD i 0=_
   exact jT _ _ _ _ _ h
  have:=hr i h
  omega
theorem I6{η:D1}(hb:cO η){m:Nat}{d:Dr}(h:nG η m d):((cN η d).1.length+1=d.1.length/\∀i,i<(cN η d).1.length->0<=(cN η d).1.getD i 0/\(cN η d).1.getD i 0<=(d.1.length:Int)-2)/\0<=(cN η d).2.1/\(cN η d).2.1<=(η.length:Int):=by
 obtain⟨a1,a2,a3,a4,a5⟩:=h;have s:=il (n:=2) a4 a5
 have D:=Ue hb (h:=bU d.2.2 2) s.1 s.2 ((d.1.length:Int)-1).toNat
 have I:=pE hb (h:=bU d.2.2 2) s.1 s.2 ((d.1.length:Int)-1).toNat
 refine⟨⟨by have:=D.1;unfold cN;omega,fun i hi=>?_⟩,I.2.2⟩
 have:=D.2 i hi
 unfold cN;omega
theorem RI{n:Nat}{t:D2}{p:D1}(ht:aA n t)(hn:t.length=n)(hp:p.length=n)(hr:∀i,i<p.length->0<=p.getD i 0/\p.getD i 0<=(n:Int)-1):aA n (bn t p t.length):=by
 subst hn;exact RH (zt (xM ht) (by omega) hr t.length (AE _))
theorem RJ{η:D1}(hb:cO η){m:Nat}{d:Dr}(h:nG η m d):nG η m (js η d):=by
 have P:=I6 hb h
 obtain⟨a1,a2,a3,a4,a5⟩:=h;have s:=il (n:=2) a4 a5
 unfold js;split
 ·split
  ·obtain⟨q1,q2⟩:=I5 P.1.1 P.1.2
   have T:=RI a3 rfl q1 q2
   refine⟨?_,?_,?_,P.2.1,P.2.2⟩
   ·show 1<=(bn d.1 (dv (cN η d).1) d.1.length).length;rw[T.1];exact a1
   ·show(bn d.1 (dv (cN η d).1) d.1.length).length<=m;rw[T.1];exact a2
   ·show aA (bn d.1 (dv (cN η d).1) d.1.length).length _;rw[T.1];exact T
  ·exact⟨a1,a2,a3,s.1,s.2⟩
 ·exact⟨a1,a2,a3,a4,a5⟩
theorem RK{l:D1}{i:Nat}(h:i<l.length):dv (l.take i)++[l.getD i 0+1]=dv (l.take (i+1)):=by
 rw[<-dZ l 0 i h];simp[dv]
def xN:List AD->Option Post
 | [.box [.ints .u8 η,.int .i64 a,.int .u64 h],.c (.int .i64 ζ)]=>some ⟨cO η/\η.length<=4096/\0<=a/\a<=(η.length:Int)/\1<=ζ/\ζ<=8,.c (.rows 62 2 .i64 (bN η a h ζ).1),[.bx [.ints .u8 η,.int .i64 ((bN η a h ζ).2.1),.int .u64 ((bN η a h ζ).2.2)]]⟩
 |_=>none
def I7(η:D1)(a:Int)(h:Int)(ζ:Int):Nat->Option Ann
 |1003=>some (Ann.mk ((Unit)) (fun u=>⟨[(0,M' 700),(6,J' 6)],[(6,N' ((bd η a h ζ).1)),(700,P' [.orig 700 0 (.ints .u8 η),.int .i64 ((bd η a h ζ).2.1),.int .u64 ((bd η a h ζ).2.2)])]⟩) (fun u=>True) (fun u=>0) (fun u=>fun b_=>match b_ with|0=>Q' fun i=>⟨⟨[(6,J' 6),(8,J' 8),(9,J' 9),(10,A' i)],[(6,N' ((bd η a h ζ).1)),(8,O' ((dv ((cN η (bd η a h ζ)).1.take i)))),(9,O' (((cN η (bd η a h ζ)).1))),(700,P' [.orig 700 0 (.ints .u8 η),.int .i64 ((cN η (bd η a h ζ)).2.1),.int .u64 ((cN η (bd η a h ζ)).2.2)])]⟩,i<=(cN η (bd η a h ζ)).1.length/\1<((bd η a h ζ).1.length:Int)/\bz η (bd η a h ζ).2.1 (bd η a h ζ).2.2 2=0,(cN η (bd η a h ζ)).1.length-i⟩|_=>none))
 |_=>none
def I8(t:Nat):Bool:=[3000022].contains t
def rB(η:D1)(a:Int)(h:Int)(ζ:Int):=(bo η (bu η.length (((bd η a h ζ).2).1) (2:Int)) (bU (((bd η a h ζ).2).2) (2:Int)) (((↑(((bd η a h ζ).1).length):Int)-(1:Int)).toNat))
def eU(η:D1)(a:Int)(h:Int)(ζ:Int):=((cN η (bd η a h ζ)).1)
theorem RN:Fits Tryz.prog 151 ⟨[(0,0)],xN⟩:=by
 refine ffv (Γ:=ah [(77,⟨[(0,0)],pC⟩),(126,⟨[],xm⟩),(183,⟨[(0,0)],sO⟩),(143,⟨[],zu⟩)]) (aw zn (aw RE (aw KM (aw Ub aI)))) Tryz.func151 fun ds p h ξ=>?_
 unfold xN at h;split at h<;>cases h
 rename_i η a h ζ
 refine⟨I8,I7 η a h ζ,((cO η/\(0:Int)<=a/\a<=(1099511627776:Int))/\η=η/\True)/\af ((1:Int)+bz η a h ζ)/\(((1:Int)<=(1:Int)+bz η a h ζ/\(1:Int)+bz η a h ζ<=(8:Int))/\True)/\(((cO η/\(0:Int)<=bu η.length a ζ/\bu η.length a ζ<=(1099511627776:Int))/\η=η/\True)/\ac (bz η (bu η.length a ζ) (bU h ζ) (↑(FC.len (FC.r3 IntKind.i64 (bW ((1:Int)+bz η a h ζ)))):Int)) (FC.len (FC.r3 IntKind.i64 (bW ((1:Int)+bz η a h ζ))))/\∃x0:Unit,True/\(bW ((1:Int)+bz η a h ζ)).getD ((bz η (bu η.length a ζ) (bU h ζ) (↑(FC.len (FC.r3 IntKind.i64 (bW ((1:Int)+bz η a h ζ)))):Int)).toNat) ([]:D2)=(bd η a h ζ).1/\η=η/\bu η.length (bu η.length a ζ) (↑(FC.len (FC.r3 IntKind.i64 (bW ((1:Int)+bz η a h ζ)))):Int)=((bd η a h ζ).2).1/\bU (bU h ζ) (↑(FC.len (FC.r3 IntKind.i64 (bW ((1:Int)+bz η a h ζ)))):Int)=((bd η a h ζ).2).2)/\∀x1:Unit,True->ab (decide ((1:Int)<(↑(((bd η a h ζ).1).length):Int))) (((cO η/\(0:Int)<=((bd η a h ζ).2).1/\((bd η a h ζ).2).1<=(1099511627776:Int))/\η=η/\True)/\ab (bz η (((bd η a h ζ).2).1) (((bd η a h ζ).2).2) (2:Int) == (0:Int)) (af ((↑(((bd η a h ζ).1).length):Int)-(1:Int))/\((cO η/\(0:Int)<=bu η.length (((bd η a h ζ).2).1) (2:Int)/\bu η.length (((bd η a h ζ).2).1) (2:Int)<=(η.length:Int)/\η.length<=(4096:Nat)/\(0:Int)<=(↑(((bd η a h ζ).1).length):Int)-(1:Int)/\(↑(((bd η a h ζ).1).length):Int)-(1:Int)<=(144:Int))/\η=η/\True)/\(∃x2:Nat,(x2<=(eU η a h ζ).length/\(1:Int)<(↑(((bd η a h ζ).1).length):Int)/\bz η (((bd η a h ζ).2).1) (((bd η a h ζ).2).2) (2:Int)=(0:Int))/\(0:Int)=(x2:Int)/\(bd η a h ζ).1=(bd η a h ζ).1/\[(0:Int)]=dv (List.take x2 (eU η a h ζ))/\(rB η a h ζ).1=(cN η (bd η a h ζ)).1/\η=η/\((rB η a h ζ).2).1=((cN η (bd η a h ζ)).2).1/\((rB η a h ζ).2).2=((cN η (bd η a h ζ)).2).2)/\∀x3:Nat,x3<=(eU η a h ζ).length/\(1:Int)<(↑(((bd η a h ζ).1).length):Int)/\bz η (((bd η a h ζ).2).1) (((bd η a h ζ).2).2) (2:Int)=(0:Int)->ab (decide ((x3:Int)<(↑(((cN η (bd η a h ζ)).1).length):Int))) (ac (x3:Int) (eU η a h ζ).length/\af ((eU η a h ζ).getD (x3:Int).toNat (0:Int)+(1:Int))/\am ((dv (List.take x3 (eU η a h ζ))).length+[(eU η a h ζ).getD (x3:Int).toNat (0:Int)+(1:Int)].length)/\af ((x3:Int)+(1:Int))/\∃x4:Nat,(x4<=(eU η a h ζ).length/\(1:Int)<(↑(((bd η a h ζ).1).length):Int)/\bz η (((bd η a h ζ).2).1) (((bd η a h ζ).2).2) (2:Int)=(0:Int))/\(eU η a h ζ).length-x4<(eU η a h ζ).length-x3/\(x3:Int)+(1:Int)=(x4:Int)/\(bd η a h ζ).1=(bd η a h ζ).1/\dv (List.take x3 (eU η a h ζ))++[(eU η a h ζ).getD (x3:Int).toNat (0:Int)+(1:Int)]=dv (List.take x4 (eU η a h ζ))/\(cN η (bd η a h ζ)).1=(cN η (bd η a h ζ)).1/\η=η/\((cN η (bd η a h ζ)).2).1=((cN η (bd η a h ζ)).2).1/\((cN η (bd η a h ζ)).2).2=((cN η (bd η a h ζ)).2).2) (((aS (bd η a h ζ).1/\((bd η a h ζ).1).length<=(144:Nat)/\iQ (↑(((bd η a h ζ).1).length):Int) (bd η a h ζ).1/\(dv (List.take x3 (eU η a h ζ))).length=((bd η a h ζ).1).length/\∀(i:Nat),i<(dv (List.take x3 (eU η a h ζ))).length->(0:Int)<=(dv (List.take x3 (eU η a h ζ))).getD i (0:Int)/\(dv (List.take x3 (eU η a h ζ))).getD i (0:Int)<=(↑(((bd η a h ζ).1).length):Int)-(1:Int))/\True)/\bn (bd η a h ζ).1 (dv (List.take x3 (eU η a h ζ))) (((bd η a h ζ).1).length)=(bN η a h ζ).1/\(η=η/\((cN η (bd η a h ζ)).2).1=((bN η a h ζ).2).1/\((cN η (bd η a h ζ)).2).2=((bN η a h ζ).2).2/\True)/\True)) ((bd η a h ζ).1=(bN η a h ζ).1/\(η=η/\bu η.length (((bd η a h ζ).2).1) (2:Int)=((bN η a h ζ).2).1/\bU (((bd η a h ζ).2).2) (2:Int)=((bN η a h ζ).2).2/\True)/\True)) ((bd η a h ζ).1=(bN η a h ζ).1/\(η=η/\((bd η a h ζ).2).1=((bN η a h ζ).2).1/\((bd η a h ζ).2).2=((bN η a h ζ).2).2/\True)/\True),by kernel_rfl,?_⟩
 simp only[rB,eU,aJ]at ξ⊢;simp only[FC.len];obtain⟨hb,hc,h0,h1,h2,h3⟩:=ξ;obtain⟨K,_,ed,w2⟩:=I4 hb (h:=h) h0 h1 h2 h3;have v:=mh hb a h h2
 have s:=il (n:=ζ) h0 h1
 refine⟨⟨hb,h0,by omega⟩,by omega,by omega,⟨⟨hb,s.1,by omega⟩,⟨ed,w2⟩,⟨⟨⟩,rfl,rfl,rfl⟩⟩,fun _ _=>?_⟩
 have e:bN η a h ζ=js η (bd η a h ζ):=rfl
 rw[e];generalize bd η a h ζ=d at K⊢
 have P:=I6 hb K
 obtain⟨k1,k2,k3,k4,k5⟩:=K;have s2:=il (n:=2) k4 k5
 refine⟨fun z=>⟨⟨hb,k4,by omega⟩,fun y=>⟨by omega,⟨hb,s2.1,s2.2,hc,by omega,by omega⟩,⟨0,⟨by omega,z,y⟩,rfl,rfl,rfl,rfl,rfl⟩,fun i ⟨hi,_,_⟩=>⟨fun g=>?_,fun g=>?_⟩⟩,fun y=>?_⟩,fun z=>?_⟩
 ·have:=P.1.2 i (by omega)
  refine⟨by omega,by omega,by simp[dv];omega,by omega,i+1,⟨by omega,z,y⟩,by omega,by omega,RK (by omega)⟩
 ·rw[AU (by omega)]
  obtain⟨q1,q2⟩:=I5 P.1.1 P.1.2;have R:js η d=(bn d.1 (dv (cN η d).1) d.1.length,(cN η d).2):=by unfold js;rw[AA z,AA y]
  rw[R];exact⟨⟨Uf (xM k3) (by omega),by omega,xM k3,q1,q2⟩,rfl,rfl,rfl⟩
 ·have R:js η d=(d.1,bu η.length d.2.1 2,bU d.2.2 2):=by unfold js;rw[AA z,AB y]
  rw[R];exact⟨rfl,rfl,rfl⟩
 ·have R:js η d=d:=by unfold js;rw[AB z]
  rw[R];exact⟨rfl,rfl,rfl⟩
end Go.Sx
