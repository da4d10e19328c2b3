/- NamB -/
import Derived.Test.YtkmldclpaniclaaGreatNamD
import Derived.Test.YtkmldclpaniclaaGreatEqt
open Go Go.Proofs
namespace Go.Sx
set_option linter.unusedSimpArgs false
set_option linter.unusedVariables false
def aI(n:Int):List (List (List Int)) :=
 ag n::((if n=4 then [a8 (ag 2) (ag 2)]else if n=8 then [a8 (ag 2) (ag 4),a8 (ag 2) (a8 (ag 2) (ag 2))]else []) ++
  ((if 6<=n/\n.tmod 2=0 then [bT (n.tdiv 2) 0]else [])++(if n=8 then [bT (n.tdiv 2) (n.tdiv 4)]else [])))
theorem rJ{n:Int}(h:1<=n):((ag n).length:Int)=n:=by rw[ag,mR];omega
theorem xF{n:Int}(h:1<=n):aB (ag n).length (ag n):=by
 have e:=rJ h
 refine⟨rfl,fun x hx=>?_⟩
 have r:(ag n).getD x []=ar n.toNat (dA n x):=ox _ _ _ (by omega)
 refine⟨by rw[r,eA];omega,fun y hy=>?_⟩
 have v:en (ag n) x y=dA n x y:=by unfold en;rw[r,eJ _ _ _ (by omega)]
 have a:=Int.tmod_nonneg (a:=(x:Int)+(y:Int)) n (by omega)
 have b:=Int.tmod_lt_of_pos ((x:Int)+(y:Int)) (b:=n) (by omega)
 rw[v,dA];omega
theorem NX{t:List (List Int)}(h:g9 t=true):aB t.length t:=by
 obtain⟨_,_,q⟩:=ow h;exact⟨rfl,fun x hx=>⟨(q x hx).1,fun y hy=>by
  have:=(q x hx).2 y hy
  have e2:en t x y=(t.getD x []).getD y 0:=rfl
  omega⟩⟩
def rK(n:Int):Post:=⟨1<=n/\n<=8,.c (.tr [22,62,2] (.r3 .i64 (aI n))),[]⟩
def xG:List AD->Option Post
 | [.c (.int .i64 n)]=>some (rK n)
 |_=>none
def Gw(t:Nat):Bool:=[2000009,2000017,2000031,2000039,2000047,2000060,2000074,2000088].contains t
def Gx:List (Nat×Ctr):=[(167,⟨[],yi⟩),(168,⟨[],yk⟩),(169,⟨[],yn⟩)]
def xH(n:Int):Prop :=
 ae (n == (12:Int)) False (ag n::([]:List (List (List Int)))++a8 (ag (2:Int)) (ag (4:Int))::a8 (ag (2:Int)) (a8 (ag (2:Int)) (ag (2:Int)))::([]:List (List (List Int)))++bT (Int.tdiv n (2:Int)) (Int.tdiv n (4:Int))::([]:List (List (List Int)))=aI n/\True)
def xI(n:Int):=(ah (FC.len (FC.r3 IntKind.i64 (ag n::([]:List (List (List Int)))++a8 (ag (2:Int)) (ag (4:Int))::a8 (ag (2:Int)) (a8 (ag (2:Int)) (ag (2:Int)))::([]:List (List (List Int)))))+FC.len (FC.r3 IntKind.i64 (bT (Int.tdiv n (2:Int)) (Int.tdiv n (4:Int))::([]:List (List (List Int)))))))
def xJ(n:Int):Prop :=
 ae (n == (8:Int)) (((2:Int)≠(0:Int)/\ac (Int.tdiv n (2:Int)))/\((4:Int)≠(0:Int)/\ac (Int.tdiv n (4:Int)))/\(((1:Int)<=Int.tdiv n (2:Int)/\Int.tdiv n (2:Int)<=(12:Int)/\(0:Int)<=Int.tdiv n (4:Int)/\Int.tdiv n (4:Int)<=(12:Int))/\True)/\xI n/\xH n) (ae (n == (12:Int)) (((2:Int)≠(0:Int)/\ac (Int.tdiv n (2:Int)))/\((4:Int)≠(0:Int)/\ac (Int.tdiv n (4:Int)))/\(((1:Int)<=Int.tdiv n (2:Int)/\Int.tdiv n (2:Int)<=(12:Int)/\(0:Int)<=Int.tdiv n (4:Int)/\Int.tdiv n (4:Int)<=(12:Int))/\True)/\xI n/\xH n) (ae (n == (12:Int)) False (ag n::([]:List (List (List Int)))++a8 (ag (2:Int)) (ag (4:Int))::a8 (ag (2:Int)) (a8 (ag (2:Int)) (ag (2:Int)))::([]:List (List (List Int)))=aI n/\True)))
def xK(n:Int):Prop :=
 ae (n == (12:Int)) False (ag n::([]:List (List (List Int)))++a8 (ag (2:Int)) (ag (2:Int))::([]:List (List (List Int)))++bT (Int.tdiv n (2:Int)) (Int.tdiv n (4:Int))::([]:List (List (List Int)))=aI n/\True)
def xL(n:Int):=(ah (FC.len (FC.r3 IntKind.i64 (ag n::([]:List (List (List Int)))++a8 (ag (2:Int)) (ag (2:Int))::([]:List (List (List Int)))))+FC.len (FC.r3 IntKind.i64 (bT (Int.tdiv n (2:Int)) (Int.tdiv n (4:Int))::([]:List (List (List Int)))))))
def xM(n:Int):Prop :=
 ae (n == (8:Int)) (((2:Int)≠(0:Int)/\ac (Int.tdiv n (2:Int)))/\((4:Int)≠(0:Int)/\ac (Int.tdiv n (4:Int)))/\(((1:Int)<=Int.tdiv n (2:Int)/\Int.tdiv n (2:Int)<=(12:Int)/\(0:Int)<=Int.tdiv n (4:Int)/\Int.tdiv n (4:Int)<=(12:Int))/\True)/\xL n/\xK n) (ae (n == (12:Int)) (((2:Int)≠(0:Int)/\ac (Int.tdiv n (2:Int)))/\((4:Int)≠(0:Int)/\ac (Int.tdiv n (4:Int)))/\(((1:Int)<=Int.tdiv n (2:Int)/\Int.tdiv n (2:Int)<=(12:Int)/\(0:Int)<=Int.tdiv n (4:Int)/\Int.tdiv n (4:Int)<=(12:Int))/\True)/\xL n/\xK n) (ae (n == (12:Int)) False (ag n::([]:List (List (List Int)))++a8 (ag (2:Int)) (ag (2:Int))::([]:List (List (List Int)))=aI n/\True)))
def xN(n:Int):Prop :=
 ae (n == (12:Int)) False (ag n::([]:List (List (List Int)))++a8 (ag (3:Int)) (ag (3:Int))::([]:List (List (List Int)))++bT (Int.tdiv n (2:Int)) (Int.tdiv n (4:Int))::([]:List (List (List Int)))=aI n/\True)
def xO(n:Int):=(ah (FC.len (FC.r3 IntKind.i64 (ag n::([]:List (List (List Int)))++a8 (ag (3:Int)) (ag (3:Int))::([]:List (List (List Int)))))+FC.len (FC.r3 IntKind.i64 (bT (Int.tdiv n (2:Int)) (Int.tdiv n (4:Int))::([]:List (List (List Int)))))))
def xP(n:Int):Prop :=
 ae (n == (8:Int)) (((2:Int)≠(0:Int)/\ac (Int.tdiv n (2:Int)))/\((4:Int)≠(0:Int)/\ac (Int.tdiv n (4:Int)))/\(((1:Int)<=Int.tdiv n (2:Int)/\Int.tdiv n (2:Int)<=(12:Int)/\(0:Int)<=Int.tdiv n (4:Int)/\Int.tdiv n (4:Int)<=(12:Int))/\True)/\xO n/\xN n) (ae (n == (12:Int)) (((2:Int)≠(0:Int)/\ac (Int.tdiv n (2:Int)))/\((4:Int)≠(0:Int)/\ac (Int.tdiv n (4:Int)))/\(((1:Int)<=Int.tdiv n (2:Int)/\Int.tdiv n (2:Int)<=(12:Int)/\(0:Int)<=Int.tdiv n (4:Int)/\Int.tdiv n (4:Int)<=(12:Int))/\True)/\xO n/\xN n) (ae (n == (12:Int)) False (ag n::([]:List (List (List Int)))++a8 (ag (3:Int)) (ag (3:Int))::([]:List (List (List Int)))=aI n/\True)))
def xQ(n:Int):Prop :=
 ae (n == (12:Int)) False (ag n::([]:List (List (List Int)))++a8 (ag (2:Int)) (ag (6:Int))::([]:List (List (List Int)))++bT (Int.tdiv n (2:Int)) (Int.tdiv n (4:Int))::([]:List (List (List Int)))=aI n/\True)
def xR(n:Int):=(ah (FC.len (FC.r3 IntKind.i64 (ag n::([]:List (List (List Int)))++a8 (ag (2:Int)) (ag (6:Int))::([]:List (List (List Int)))))+FC.len (FC.r3 IntKind.i64 (bT (Int.tdiv n (2:Int)) (Int.tdiv n (4:Int))::([]:List (List (List Int)))))))
def xS(n:Int):Prop :=
 ae (n == (8:Int)) (((2:Int)≠(0:Int)/\ac (Int.tdiv n (2:Int)))/\((4:Int)≠(0:Int)/\ac (Int.tdiv n (4:Int)))/\(((1:Int)<=Int.tdiv n (2:Int)/\Int.tdiv n (2:Int)<=(12:Int)/\(0:Int)<=Int.tdiv n (4:Int)/\Int.tdiv n (4:Int)<=(12:Int))/\True)/\xR n/\xQ n) (ae (n == (12:Int)) (((2:Int)≠(0:Int)/\ac (Int.tdiv n (2:Int)))/\((4:Int)≠(0:Int)/\ac (Int.tdiv n (4:Int)))/\(((1:Int)<=Int.tdiv n (2:Int)/\Int.tdiv n (2:Int)<=(12:Int)/\(0:Int)<=Int.tdiv n (4:Int)/\Int.tdiv n (4:Int)<=(12:Int))/\True)/\xR n/\xQ n) (ae (n == (12:Int)) False (ag n::([]:List (List (List Int)))++a8 (ag (2:Int)) (ag (6:Int))::([]:List (List (List Int)))=aI n/\True)))
def xT(n:Int):=(ah (FC.len (FC.r3 IntKind.i64 (ag n::([]:List (List (List Int)))))+FC.len (FC.r3 IntKind.i64 (bT (Int.tdiv n (2:Int)) (Int.tdiv n (4:Int))::([]:List (List (List Int)))))))
def xU(n:Int):Prop :=
 ae (n == (8:Int)) (((2:Int)≠(0:Int)/\ac (Int.tdiv n (2:Int)))/\((4:Int)≠(0:Int)/\ac (Int.tdiv n (4:Int)))/\(((1:Int)<=Int.tdiv n (2:Int)/\Int.tdiv n (2:Int)<=(12:Int)/\(0:Int)<=Int.tdiv n (4:Int)/\Int.tdiv n (4:Int)<=(12:Int))/\True)/\xT n/\ae (n == (12:Int)) False (ag n::([]:List (List (List Int)))++bT (Int.tdiv n (2:Int)) (Int.tdiv n (4:Int))::([]:List (List (List Int)))=aI n/\True)) (ae (n == (12:Int)) (((2:Int)≠(0:Int)/\ac (Int.tdiv n (2:Int)))/\((4:Int)≠(0:Int)/\ac (Int.tdiv n (4:Int)))/\(((1:Int)<=Int.tdiv n (2:Int)/\Int.tdiv n (2:Int)<=(12:Int)/\(0:Int)<=Int.tdiv n (4:Int)/\Int.tdiv n (4:Int)<=(12:Int))/\True)/\xT n/\ae (n == (12:Int)) False (ag n::([]:List (List (List Int)))++bT (Int.tdiv n (2:Int)) (Int.tdiv n (4:Int))::([]:List (List (List Int)))=aI n/\True)) (ae (n == (12:Int)) False (ag n::([]:List (List (List Int)))=aI n/\True)))
def xV(n:Int):Prop :=
 ae (n == (12:Int)) False (ag n::([]:List (List (List Int)))++a8 (ag (2:Int)) (ag (4:Int))::a8 (ag (2:Int)) (a8 (ag (2:Int)) (ag (2:Int)))::([]:List (List (List Int)))++bT (Int.tdiv n (2:Int)) (0:Int)::([]:List (List (List Int)))++bT (Int.tdiv n (2:Int)) (Int.tdiv n (4:Int))::([]:List (List (List Int)))=aI n/\True)
def xW(n:Int):Prop :=
 ae (n == (12:Int)) False (ag n::([]:List (List (List Int)))++a8 (ag (2:Int)) (ag (2:Int))::([]:List (List (List Int)))++bT (Int.tdiv n (2:Int)) (0:Int)::([]:List (List (List Int)))++bT (Int.tdiv n (2:Int)) (Int.tdiv n (4:Int))::([]:List (List (List Int)))=aI n/\True)
def xX(n:Int):Prop :=
 ae (n == (12:Int)) False (ag n::([]:List (List (List Int)))++a8 (ag (3:Int)) (ag (3:Int))::([]:List (List (List Int)))++bT (Int.tdiv n (2:Int)) (0:Int)::([]:List (List (List Int)))++bT (Int.tdiv n (2:Int)) (Int.tdiv n (4:Int))::([]:List (List (List Int)))=aI n/\True)
def xY(n:Int):Prop :=
 ae (n == (12:Int)) False (ag n::([]:List (List (List Int)))++a8 (ag (2:Int)) (ag (6:Int))::([]:List (List (List Int)))++bT (Int.tdiv n (2:Int)) (0:Int)::([]:List (List (List Int)))++bT (Int.tdiv n (2:Int)) (Int.tdiv n (4:Int))::([]:List (List (List Int)))=aI n/\True)
def xZ(n:Int):Prop :=
 ae (n == (12:Int)) False (ag n::([]:List (List (List Int)))++bT (Int.tdiv n (2:Int)) (0:Int)::([]:List (List (List Int)))++bT (Int.tdiv n (2:Int)) (Int.tdiv n (4:Int))::([]:List (List (List Int)))=aI n/\True)
def la(n:Int):=(FC.r3 IntKind.i64 (bT (Int.tdiv n (2:Int)) (Int.tdiv n (4:Int))::([]:List (List (List Int)))))
def mO(n:Int):=(FC.r3 IntKind.i64 (bT (Int.tdiv n (2:Int)) (0:Int)::([]:List (List (List Int)))))
def ya(n:Int):=(ah (FC.len (FC.r3 IntKind.i64 (ag n::([]:List (List (List Int)))++a8 (ag (2:Int)) (ag (4:Int))::a8 (ag (2:Int)) (a8 (ag (2:Int)) (ag (2:Int)))::([]:List (List (List Int)))++bT (Int.tdiv n (2:Int)) (0:Int)::([]:List (List (List Int)))))+FC.len (la n)))
def yb(n:Int):=(ah (FC.len (FC.r3 IntKind.i64 (ag n::([]:List (List (List Int)))++a8 (ag (2:Int)) (ag (2:Int))::([]:List (List (List Int)))++bT (Int.tdiv n (2:Int)) (0:Int)::([]:List (List (List Int)))))+FC.len (la n)))
def yc(n:Int):=(ah (FC.len (FC.r3 IntKind.i64 (ag n::([]:List (List (List Int)))++a8 (ag (3:Int)) (ag (3:Int))::([]:List (List (List Int)))++bT (Int.tdiv n (2:Int)) (0:Int)::([]:List (List (List Int)))))+FC.len (la n)))
def ye(n:Int):=(ah (FC.len (FC.r3 IntKind.i64 (ag n::([]:List (List (List Int)))++a8 (ag (2:Int)) (ag (6:Int))::([]:List (List (List Int)))++bT (Int.tdiv n (2:Int)) (0:Int)::([]:List (List (List Int)))))+FC.len (la n)))
def jS:=(aB ((ag (2:Int)).length) (ag (2:Int)))
def mP(n:Int):=(FC.r3 IntKind.i64 (ag n::([]:List (List (List Int)))))
def yf(n:Int):Prop :=
 ((((1:Int)<=n/\n<=(12:Int))/\True)/\(ae (n == (4:Int)) ((((1:Int)<=(2:Int)/\(2:Int)<=(12:Int))/\True)/\((((1:Int)<=(2:Int)/\(2:Int)<=(12:Int))/\True)/\(((jS/\jS/\(1:Nat)<=(ag (2:Int)).length/\(ag (2:Int)).length<=(144:Nat)/\(ag (2:Int)).length<=(144:Nat))/\True)/\(ah (FC.len (mP n)+FC.len (FC.r3 IntKind.i64 (a8 (ag (2:Int)) (ag (2:Int))::([]:List (List (List Int))))))/\(ae (decide ((6:Int)<=n)) ((2:Int)≠(0:Int)/\(ae (Int.tmod n (2:Int) == (0:Int)) (((2:Int)≠(0:Int)/\ac (Int.tdiv n (2:Int)))/\((((1:Int)<=Int.tdiv n (2:Int)/\Int.tdiv n (2:Int)<=(12:Int)/\(0:Int)<=(0:Int)/\(0:Int)<=(12:Int))/\True)/\(ah (FC.len (FC.r3 IntKind.i64 (ag n::([]:List (List (List Int)))++a8 (ag (2:Int)) (ag (2:Int))::([]:List (List (List Int)))))+FC.len (mO n))/\(ae (n == (8:Int)) (((2:Int)≠(0:Int)/\ac (Int.tdiv n (2:Int)))/\((4:Int)≠(0:Int)/\ac (Int.tdiv n (4:Int)))/\(((1:Int)<=Int.tdiv n (2:Int)/\Int.tdiv n (2:Int)<=(12:Int)/\(0:Int)<=Int.tdiv n (4:Int)/\Int.tdiv n (4:Int)<=(12:Int))/\True)/\yb n/\xW n) (ae (n == (12:Int)) (((2:Int)≠(0:Int)/\ac (Int.tdiv n (2:Int)))/\((4:Int)≠(0:Int)/\ac (Int.tdiv n (4:Int)))/\(((1:Int)<=Int.tdiv n (2:Int)/\Int.tdiv n (2:Int)<=(12:Int)/\(0:Int)<=Int.tdiv n (4:Int)/\Int.tdiv n (4:Int)<=(12:Int))/\True)/\yb n/\xW n) (ae (n == (12:Int)) False
 ((ag n::([]:List (List (List Int)))++a8 (ag (2:Int)) (ag (2:Int))::([]:List (List (List Int)))++bT (Int.tdiv n (2:Int)) (0:Int)::([]:List (List (List Int)))=aI n)/\True))))))) (xM n))) (xM n)))))) (ae (n == (8:Int)) (((((1:Int)<=(2:Int))/\((2:Int)<=(12:Int)))/\True)/\(((((1:Int)<=(2:Int))/\((2:Int)<=(12:Int)))/\True)/\((((jS)/\((jS)/\(((1:Nat)<=(ag (2:Int)).length)/\(((ag (2:Int)).length<=(144:Nat))/\((ag (2:Int)).length<=(144:Nat))))))/\True)/\(((((1:Int)<=(2:Int))/\((2:Int)<=(12:Int)))/\True)/\(((((1:Int)<=(4:Int))/\((4:Int)<=(12:Int)))/\True)/\((((jS)/\((aB ((ag (4:Int)).length) (ag (4:Int)))/\(((1:Nat)<=(ag (4:Int)).length)/\(((ag (2:Int)).length<=(144:Nat))/\((ag (4:Int)).length<=(144:Nat))))))/\True)/\(((((1:Int)<=(2:Int))/\((2:Int)<=(12:Int)))/\True)/\((((jS)/\((aB ((a8 (ag (2:Int)) (ag (2:Int))).length) (a8 (ag (2:Int)) (ag (2:Int))))/\(((1:Nat)<=(a8 (ag (2:Int)) (ag (2:Int))).length)/\(((ag (2:Int)).length<=(144:Nat))/\((a8 (ag (2:Int)) (ag (2:Int))).length<=(144:Nat))))))/\True)/\((ah (FC.len (mP n)+FC.len (FC.r3 IntKind.i64 (a8 (ag (2:Int)) (ag (4:Int))::a8 (ag (2:Int)) (a8 (ag (2:Int)) (ag (2:Int)))::([]:List (List (List Int)))))))/\(ae (decide ((6:Int)<=n)) (((2:Int)≠(0:Int))/\(ae (Int.tmod n (2:Int) == (0:Int)) ((((2:Int)≠(0:Int))/\(ac (Int.tdiv n (2:Int))))/\(((((1:Int)<=Int.tdiv n (2:Int))/\((Int.tdiv n (2:Int)<=(12:Int)) /\
 (((0:Int)<=(0:Int))/\((0:Int)<=(12:Int)))))/\True)/\((ah (FC.len (FC.r3 IntKind.i64 (ag n::([]:List (List (List Int)))++a8 (ag (2:Int)) (ag (4:Int))::a8 (ag (2:Int)) (a8 (ag (2:Int)) (ag (2:Int)))::([]:List (List (List Int)))))+FC.len (mO n)))/\(ae (n == (8:Int)) ((((2:Int)≠(0:Int))/\(ac (Int.tdiv n (2:Int))))/\((((4:Int)≠(0:Int))/\(ac (Int.tdiv n (4:Int))))/\(((((1:Int)<=Int.tdiv n (2:Int))/\((Int.tdiv n (2:Int)<=(12:Int))/\(((0:Int)<=Int.tdiv n (4:Int))/\(Int.tdiv n (4:Int)<=(12:Int)))))/\True)/\((ya n)/\(xV n))))) (ae (n == (12:Int)) ((((2:Int)≠(0:Int))/\(ac (Int.tdiv n (2:Int))))/\((((4:Int)≠(0:Int))/\(ac (Int.tdiv n (4:Int))))/\(((((1:Int)<=Int.tdiv n (2:Int))/\((Int.tdiv n (2:Int)<=(12:Int))/\(((0:Int)<=Int.tdiv n (4:Int))/\(Int.tdiv n (4:Int)<=(12:Int)))))/\True)/\((ya n)/\(xV n))))) (ae (n == (12:Int)) False ((ag n::([]:List (List (List Int)))++a8 (ag (2:Int)) (ag (4:Int))::a8 (ag (2:Int)) (a8 (ag (2:Int)) (ag (2:Int)))::([]:List (List (List Int)))++bT (Int.tdiv n (2:Int)) (0:Int)::([]:List (List (List Int)))=aI n)/\True))))))) (xJ n))) (xJ n))))))))))) (ae (n == (9:Int)) (((((1:Int)<=(3:Int))/\((3:Int)<=(12:Int)))/\True)/\(((((1:Int)<=(3:Int))/\((3:Int)<=(12:Int)))/\True)/\((((aB ((ag (3:Int)).length) (ag (3:Int)))/\((aB ((ag (3:Int)).length) (ag (3:Int)))/\(((1:Nat)<=(ag (3:Int)).length)/\(((ag (3:Int)).length<=(144:Nat)) /\
 ((ag (3:Int)).length<=(144:Nat))))))/\True)/\((ah (FC.len (mP n)+FC.len (FC.r3 IntKind.i64 (a8 (ag (3:Int)) (ag (3:Int))::([]:List (List (List Int)))))))/\(ae (decide ((6:Int)<=n)) (((2:Int)≠(0:Int))/\(ae (Int.tmod n (2:Int) == (0:Int)) ((((2:Int)≠(0:Int))/\(ac (Int.tdiv n (2:Int))))/\(((((1:Int)<=Int.tdiv n (2:Int))/\((Int.tdiv n (2:Int)<=(12:Int))/\(((0:Int)<=(0:Int))/\((0:Int)<=(12:Int)))))/\True)/\((ah (FC.len (FC.r3 IntKind.i64 (ag n::([]:List (List (List Int)))++a8 (ag (3:Int)) (ag (3:Int))::([]:List (List (List Int)))))+FC.len (mO n)))/\(ae (n == (8:Int)) ((((2:Int)≠(0:Int))/\(ac (Int.tdiv n (2:Int))))/\((((4:Int)≠(0:Int))/\(ac (Int.tdiv n (4:Int))))/\(((((1:Int)<=Int.tdiv n (2:Int))/\((Int.tdiv n (2:Int)<=(12:Int))/\(((0:Int)<=Int.tdiv n (4:Int))/\(Int.tdiv n (4:Int)<=(12:Int)))))/\True)/\((yc n)/\(xX n))))) (ae (n == (12:Int)) ((((2:Int)≠(0:Int))/\(ac (Int.tdiv n (2:Int))))/\((((4:Int)≠(0:Int))/\(ac (Int.tdiv n (4:Int))))/\(((((1:Int)<=Int.tdiv n (2:Int))/\((Int.tdiv n (2:Int)<=(12:Int))/\(((0:Int)<=Int.tdiv n (4:Int))/\(Int.tdiv n (4:Int)<=(12:Int)))))/\True)/\((yc n)/\(xX n))))) (ae (n == (12:Int)) False ((ag n::([]:List (List (List Int)))++a8 (ag (3:Int)) (ag (3:Int))::([]:List (List (List Int)))++bT (Int.tdiv n (2:Int)) (0:Int)::([]:List (List (List Int)))=aI n)/\True))))))) (xP n))) (xP n)))))) (ae (n == (12:Int))
 ((((1:Int)<=(2:Int)/\(2:Int)<=(12:Int))/\True)/\((((1:Int)<=(6:Int)/\(6:Int)<=(12:Int))/\True)/\(((jS/\aB ((ag (6:Int)).length) (ag (6:Int))/\(1:Nat)<=(ag (6:Int)).length/\(ag (2:Int)).length<=(144:Nat)/\(ag (6:Int)).length<=(144:Nat))/\True)/\(ah (FC.len (mP n)+FC.len (FC.r3 IntKind.i64 (a8 (ag (2:Int)) (ag (6:Int))::([]:List (List (List Int))))))/\(ae (decide ((6:Int)<=n)) ((2:Int)≠(0:Int)/\(ae (Int.tmod n (2:Int) == (0:Int)) (((2:Int)≠(0:Int)/\ac (Int.tdiv n (2:Int)))/\((((1:Int)<=Int.tdiv n (2:Int)/\Int.tdiv n (2:Int)<=(12:Int)/\(0:Int)<=(0:Int)/\(0:Int)<=(12:Int))/\True)/\(ah (FC.len (FC.r3 IntKind.i64 (ag n::([]:List (List (List Int)))++a8 (ag (2:Int)) (ag (6:Int))::([]:List (List (List Int)))))+FC.len (mO n))/\(ae (n == (8:Int)) (((2:Int)≠(0:Int)/\ac (Int.tdiv n (2:Int)))/\((4:Int)≠(0:Int)/\ac (Int.tdiv n (4:Int)))/\(((1:Int)<=Int.tdiv n (2:Int)/\Int.tdiv n (2:Int)<=(12:Int)/\(0:Int)<=Int.tdiv n (4:Int)/\Int.tdiv n (4:Int)<=(12:Int))/\True)/\ye n/\xY n) (ae (n == (12:Int)) (((2:Int)≠(0:Int)/\ac (Int.tdiv n (2:Int)))/\((4:Int)≠(0:Int)/\ac (Int.tdiv n (4:Int)))/\(((1:Int)<=Int.tdiv n (2:Int)/\Int.tdiv n (2:Int)<=(12:Int)/\(0:Int)<=Int.tdiv n (4:Int)/\Int.tdiv n (4:Int)<=(12:Int))/\True)/\ye n/\xY n) (ae (n == (12:Int)) False
 ((ag n::([]:List (List (List Int)))++a8 (ag (2:Int)) (ag (6:Int))::([]:List (List (List Int)))++bT (Int.tdiv n (2:Int)) (0:Int)::([]:List (List (List Int)))=aI n)/\True))))))) (xS n))) (xS n)))))) (ae (decide ((6:Int)<=n)) (((2:Int)≠(0:Int))/\(ae (Int.tmod n (2:Int) == (0:Int)) ((((2:Int)≠(0:Int))/\(ac (Int.tdiv n (2:Int))))/\(((((1:Int)<=Int.tdiv n (2:Int))/\((Int.tdiv n (2:Int)<=(12:Int))/\(((0:Int)<=(0:Int))/\((0:Int)<=(12:Int)))))/\True)/\((ah (FC.len (mP n)+FC.len (mO n)))/\(ae (n == (8:Int)) ((((2:Int)≠(0:Int))/\(ac (Int.tdiv n (2:Int))))/\((((4:Int)≠(0:Int))/\(ac (Int.tdiv n (4:Int))))/\(((((1:Int)<=Int.tdiv n (2:Int))/\((Int.tdiv n (2:Int)<=(12:Int))/\(((0:Int)<=Int.tdiv n (4:Int))/\(Int.tdiv n (4:Int)<=(12:Int)))))/\True)/\((ah (FC.len (FC.r3 IntKind.i64 (ag n::([]:List (List (List Int)))++bT (Int.tdiv n (2:Int)) (0:Int)::([]:List (List (List Int)))))+FC.len (la n)))/\(xZ n))))) (ae (n == (12:Int)) ((((2:Int)≠(0:Int))/\(ac (Int.tdiv n (2:Int))))/\((((4:Int)≠(0:Int))/\(ac (Int.tdiv n (4:Int))))/\(((((1:Int)<=Int.tdiv n (2:Int))/\((Int.tdiv n (2:Int)<=(12:Int))/\(((0:Int)<=Int.tdiv n (4:Int))/\(Int.tdiv n (4:Int)<=(12:Int)))))/\True)/\((ah (FC.len (FC.r3 IntKind.i64 (ag n::([]:List (List (List Int)))++bT (Int.tdiv n (2:Int)) (0:Int)::([]:List (List (List Int)))))+FC.len (la n)))/\(xZ n))))) (ae (n == (12:Int)) False
 ((ag n::([]:List (List (List Int)))++bT (Int.tdiv n (2:Int)) (0:Int)::([]:List (List (List Int)))=aI n)/\True))))))) (xU n))) (xU n)))))))
theorem NY(n:Int):aY Tryz.prog (aj Gx) Gw av Tryz.f126 (aP Tryz.f126) [] [.c (.int .i64 n)] (rK n)=yf n:=by kernel_rfl
theorem NZ(n:Int)(Yh:(rK n).pre):yf n:=by
 simp only[rK,yf,xZ,xY,xX,xW,xV,xU,xQ,xS,xN,xP,xK,xM,xH,xJ,xI,xL,xO,xR,xT,la,mO,ya,yb,yc,ye,jS,mP,aX,u1,u2,u3,u4,u5,u6,u7,u8,u9,v1,v2,v3,v4,v5,v6,v7,v8,v9,w1,w2,w3,w4,aN,ab,ac,ah,ax]at Yh⊢;obtain⟨h1,h2⟩:=Yh;have l2:(ag 2).length=2:=by have:=rJ (n:=2) (by omega);omega
 have l4:(ag 4).length=4:=by have:=rJ (n:=4) (by omega);omega
 have t2:=xF (n:=2) (by omega)
 have t4:=xF (n:=4) (by omega)
 have l22:(a8 (ag 2) (ag 2)).length=4:=by rw[a8,mR,l2]
 have t22:aB 4 (a8 (ag 2) (ag 2)):=by
  have:=NX (t:=a8 (ag 2) (ag 2)) (by decide +kernel)
  rw[l22]at this;exact this
 rw[l2]at t2;rw[l4]at t4;have:n=1\/n=2\/n=3\/n=4\/n=5\/n=6\/n=7\/n=8:=by omega
 rcases this with rfl|rfl|rfl|rfl|rfl|rfl|rfl|rfl<;>simp[l2,t2,l4,t4,l22,t22,aI,FC.len]
theorem N0:Fits Tryz.prog 126 ⟨[],xG⟩:=by
 refine bf (Γ:=aj Gx) (aD Og (aD Oj (aD Om aW))) Tryz.func126 fun ds p h hp=>?_
 unfold xG at h;split at h
 ·cases h
  exact⟨Gw,av,by rw[NY];exact NZ _  hp⟩
 ·cases h
end Go.Sx
