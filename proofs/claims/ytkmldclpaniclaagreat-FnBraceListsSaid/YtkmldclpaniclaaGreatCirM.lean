/- CirM -/
import Derived.Test.YtkmldclpaniclaaGreatNamD
import Derived.Test.YtkmldclpaniclaaGreatEqt
import Derived.Test.YtkmldclpaniclaaGreatCirC
set_option linter.unusedSimpArgs false
set_option linter.unusedVariables false
set_option linter.defProp false
open Go Go.Proofs
namespace Go.Sx
def aE(n:Int):D8 :=
 af n::((if n=4 then [bj (af 2) (af 2)]else if n=8 then [bj (af 2) (af 4),bj (af 2) (bj (af 2) (af 2))]else []) ++
  ((if 6<=n/\n.tmod 2=0 then [cj (n.tdiv 2) 0]else [])++(if n=8 then [cj (n.tdiv 2) (n.tdiv 4)]else [])))
def mS{n:Int}(h:1<=n):((af n).length:Int)=n:=by rw[af,mI];omega
def qt{n:Int}(h:1<=n):am (af n).length (af n):=by
 have e:=mS h
 refine⟨rfl,λx hx=>?_⟩
 have r:(af n).getD x []=ax n.toNat (d9 n x):=ou _ _ _ (by omega)
 refine⟨by rw[r,d4];omega,λy hy=>?_⟩
 have v:en (af n) x y=d9 n x y:=by unfold en;rw[r,eA _ _ _ (by omega)]
 have a:=Cw (a:=(x:Int)+(y:Int)) n (by omega)
 have b:=Cy ((x:Int)+(y:Int)) (b:=n) (by omega)
 rw[v,d9];omega
def un{t:D7}(h:bX t=true):am t.length t:=by
 obtain⟨_,_,q⟩:=gH h;exact⟨rfl,λx hx=>⟨(q x hx).1,λy hy=>by
  have:=(q x hx).2 y hy
  have e2:en t x y=(t.getD x []).getD y 0:=rfl
  omega⟩⟩
def uo(n:Int):Post:=⟨1<=n/\n<=8,.c (.tr [22,62,2] (.r3 .i64 (aE n))),[]⟩
def qv:List AD->Option Post
 | [.c (.int .i64 n)]=>some (uo n)
 |_=>none
def M8(t:Nat):Bool:=[2000009,2000017,2000031,2000039,2000047,2000060,2000074,2000088].contains t
def M9:List (Nat×Ctr):=[(167,⟨[],wl⟩),(168,⟨[],wn⟩),(169,⟨[],Hh⟩)]
def EE(n:Int):Prop :=
 ab (n == (12:Int)) False (af n::([]:D8)++bj (af (2:Int)) (af (4:Int))::bj (af (2:Int)) (bj (af (2:Int)) (af (2:Int)))::([]:D8)++cj (Int.tdiv n (2:Int)) (Int.tdiv n (4:Int))::([]:D8)=aE n/\True)
def EF(n:Int):=(au (FC.len (FC.r3 IntKind.i64 (af n::([]:D8)++bj (af (2:Int)) (af (4:Int))::bj (af (2:Int)) (bj (af (2:Int)) (af (2:Int)))::([]:D8)))+FC.len (FC.r3 IntKind.i64 (cj (Int.tdiv n (2:Int)) (Int.tdiv n (4:Int))::([]:D8)))))
def EG(n:Int):Prop :=
 ab (n == (8:Int)) (((2:Int)≠(0:Int)/\ae (Int.tdiv n (2:Int)))/\((4:Int)≠(0:Int)/\ae (Int.tdiv n (4:Int)))/\(((1:Int)<=Int.tdiv n (2:Int)/\Int.tdiv n (2:Int)<=(12:Int)/\(0:Int)<=Int.tdiv n (4:Int)/\Int.tdiv n (4:Int)<=(12:Int))/\True)/\EF n/\EE n) (ab (n == (12:Int)) (((2:Int)≠(0:Int)/\ae (Int.tdiv n (2:Int)))/\((4:Int)≠(0:Int)/\ae (Int.tdiv n (4:Int)))/\(((1:Int)<=Int.tdiv n (2:Int)/\Int.tdiv n (2:Int)<=(12:Int)/\(0:Int)<=Int.tdiv n (4:Int)/\Int.tdiv n (4:Int)<=(12:Int))/\True)/\EF n/\EE n) (ab (n == (12:Int)) False (af n::([]:D8)++bj (af (2:Int)) (af (4:Int))::bj (af (2:Int)) (bj (af (2:Int)) (af (2:Int)))::([]:D8)=aE n/\True)))
def EH(n:Int):Prop :=
 ab (n == (12:Int)) False (af n::([]:D8)++bj (af (2:Int)) (af (2:Int))::([]:D8)++cj (Int.tdiv n (2:Int)) (Int.tdiv n (4:Int))::([]:D8)=aE n/\True)
def EI(n:Int):=(au (FC.len (FC.r3 IntKind.i64 (af n::([]:D8)++bj (af (2:Int)) (af (2:Int))::([]:D8)))+FC.len (FC.r3 IntKind.i64 (cj (Int.tdiv n (2:Int)) (Int.tdiv n (4:Int))::([]:D8)))))
def EJ(n:Int):Prop :=
 ab (n == (8:Int)) (((2:Int)≠(0:Int)/\ae (Int.tdiv n (2:Int)))/\((4:Int)≠(0:Int)/\ae (Int.tdiv n (4:Int)))/\(((1:Int)<=Int.tdiv n (2:Int)/\Int.tdiv n (2:Int)<=(12:Int)/\(0:Int)<=Int.tdiv n (4:Int)/\Int.tdiv n (4:Int)<=(12:Int))/\True)/\EI n/\EH n) (ab (n == (12:Int)) (((2:Int)≠(0:Int)/\ae (Int.tdiv n (2:Int)))/\((4:Int)≠(0:Int)/\ae (Int.tdiv n (4:Int)))/\(((1:Int)<=Int.tdiv n (2:Int)/\Int.tdiv n (2:Int)<=(12:Int)/\(0:Int)<=Int.tdiv n (4:Int)/\Int.tdiv n (4:Int)<=(12:Int))/\True)/\EI n/\EH n) (ab (n == (12:Int)) False (af n::([]:D8)++bj (af (2:Int)) (af (2:Int))::([]:D8)=aE n/\True)))
def EK(n:Int):Prop :=
 ab (n == (12:Int)) False (af n::([]:D8)++bj (af (3:Int)) (af (3:Int))::([]:D8)++cj (Int.tdiv n (2:Int)) (Int.tdiv n (4:Int))::([]:D8)=aE n/\True)
def EL(n:Int):=(au (FC.len (FC.r3 IntKind.i64 (af n::([]:D8)++bj (af (3:Int)) (af (3:Int))::([]:D8)))+FC.len (FC.r3 IntKind.i64 (cj (Int.tdiv n (2:Int)) (Int.tdiv n (4:Int))::([]:D8)))))
def EM(n:Int):Prop :=
 ab (n == (8:Int)) (((2:Int)≠(0:Int)/\ae (Int.tdiv n (2:Int)))/\((4:Int)≠(0:Int)/\ae (Int.tdiv n (4:Int)))/\(((1:Int)<=Int.tdiv n (2:Int)/\Int.tdiv n (2:Int)<=(12:Int)/\(0:Int)<=Int.tdiv n (4:Int)/\Int.tdiv n (4:Int)<=(12:Int))/\True)/\EL n/\EK n) (ab (n == (12:Int)) (((2:Int)≠(0:Int)/\ae (Int.tdiv n (2:Int)))/\((4:Int)≠(0:Int)/\ae (Int.tdiv n (4:Int)))/\(((1:Int)<=Int.tdiv n (2:Int)/\Int.tdiv n (2:Int)<=(12:Int)/\(0:Int)<=Int.tdiv n (4:Int)/\Int.tdiv n (4:Int)<=(12:Int))/\True)/\EL n/\EK n) (ab (n == (12:Int)) False (af n::([]:D8)++bj (af (3:Int)) (af (3:Int))::([]:D8)=aE n/\True)))
def EN(n:Int):Prop :=
 ab (n == (12:Int)) False (af n::([]:D8)++bj (af (2:Int)) (af (6:Int))::([]:D8)++cj (Int.tdiv n (2:Int)) (Int.tdiv n (4:Int))::([]:D8)=aE n/\True)
def EO(n:Int):=(au (FC.len (FC.r3 IntKind.i64 (af n::([]:D8)++bj (af (2:Int)) (af (6:Int))::([]:D8)))+FC.len (FC.r3 IntKind.i64 (cj (Int.tdiv n (2:Int)) (Int.tdiv n (4:Int))::([]:D8)))))
def EP(n:Int):Prop :=
 ab (n == (8:Int)) (((2:Int)≠(0:Int)/\ae (Int.tdiv n (2:Int)))/\((4:Int)≠(0:Int)/\ae (Int.tdiv n (4:Int)))/\(((1:Int)<=Int.tdiv n (2:Int)/\Int.tdiv n (2:Int)<=(12:Int)/\(0:Int)<=Int.tdiv n (4:Int)/\Int.tdiv n (4:Int)<=(12:Int))/\True)/\EO n/\EN n) (ab (n == (12:Int)) (((2:Int)≠(0:Int)/\ae (Int.tdiv n (2:Int)))/\((4:Int)≠(0:Int)/\ae (Int.tdiv n (4:Int)))/\(((1:Int)<=Int.tdiv n (2:Int)/\Int.tdiv n (2:Int)<=(12:Int)/\(0:Int)<=Int.tdiv n (4:Int)/\Int.tdiv n (4:Int)<=(12:Int))/\True)/\EO n/\EN n) (ab (n == (12:Int)) False (af n::([]:D8)++bj (af (2:Int)) (af (6:Int))::([]:D8)=aE n/\True)))
def EQ(n:Int):=(au (FC.len (FC.r3 IntKind.i64 (af n::([]:D8)))+FC.len (FC.r3 IntKind.i64 (cj (Int.tdiv n (2:Int)) (Int.tdiv n (4:Int))::([]:D8)))))
def ER(n:Int):Prop :=
 ab (n == (8:Int)) (((2:Int)≠(0:Int)/\ae (Int.tdiv n (2:Int)))/\((4:Int)≠(0:Int)/\ae (Int.tdiv n (4:Int)))/\(((1:Int)<=Int.tdiv n (2:Int)/\Int.tdiv n (2:Int)<=(12:Int)/\(0:Int)<=Int.tdiv n (4:Int)/\Int.tdiv n (4:Int)<=(12:Int))/\True)/\EQ n/\ab (n == (12:Int)) False (af n::([]:D8)++cj (Int.tdiv n (2:Int)) (Int.tdiv n (4:Int))::([]:D8)=aE n/\True)) (ab (n == (12:Int)) (((2:Int)≠(0:Int)/\ae (Int.tdiv n (2:Int)))/\((4:Int)≠(0:Int)/\ae (Int.tdiv n (4:Int)))/\(((1:Int)<=Int.tdiv n (2:Int)/\Int.tdiv n (2:Int)<=(12:Int)/\(0:Int)<=Int.tdiv n (4:Int)/\Int.tdiv n (4:Int)<=(12:Int))/\True)/\EQ n/\ab (n == (12:Int)) False (af n::([]:D8)++cj (Int.tdiv n (2:Int)) (Int.tdiv n (4:Int))::([]:D8)=aE n/\True)) (ab (n == (12:Int)) False (af n::([]:D8)=aE n/\True)))
def ES(n:Int):Prop :=
 ab (n == (12:Int)) False (af n::([]:D8)++bj (af (2:Int)) (af (4:Int))::bj (af (2:Int)) (bj (af (2:Int)) (af (2:Int)))::([]:D8)++cj (Int.tdiv n (2:Int)) (0:Int)::([]:D8)++cj (Int.tdiv n (2:Int)) (Int.tdiv n (4:Int))::([]:D8)=aE n/\True)
def ET(n:Int):Prop :=
 ab (n == (12:Int)) False (af n::([]:D8)++bj (af (2:Int)) (af (2:Int))::([]:D8)++cj (Int.tdiv n (2:Int)) (0:Int)::([]:D8)++cj (Int.tdiv n (2:Int)) (Int.tdiv n (4:Int))::([]:D8)=aE n/\True)
def EU(n:Int):Prop :=
 ab (n == (12:Int)) False (af n::([]:D8)++bj (af (3:Int)) (af (3:Int))::([]:D8)++cj (Int.tdiv n (2:Int)) (0:Int)::([]:D8)++cj (Int.tdiv n (2:Int)) (Int.tdiv n (4:Int))::([]:D8)=aE n/\True)
def EW(n:Int):Prop :=
 ab (n == (12:Int)) False (af n::([]:D8)++bj (af (2:Int)) (af (6:Int))::([]:D8)++cj (Int.tdiv n (2:Int)) (0:Int)::([]:D8)++cj (Int.tdiv n (2:Int)) (Int.tdiv n (4:Int))::([]:D8)=aE n/\True)
def EX(n:Int):Prop :=
 ab (n == (12:Int)) False (af n::([]:D8)++cj (Int.tdiv n (2:Int)) (0:Int)::([]:D8)++cj (Int.tdiv n (2:Int)) (Int.tdiv n (4:Int))::([]:D8)=aE n/\True)
def mT(n:Int):=(FC.r3 IntKind.i64 (cj (Int.tdiv n (2:Int)) (Int.tdiv n (4:Int))::([]:D8)))
def oH(n:Int):=(FC.r3 IntKind.i64 (cj (Int.tdiv n (2:Int)) (0:Int)::([]:D8)))
def EY(n:Int):=(au (FC.len (FC.r3 IntKind.i64 (af n::([]:D8)++bj (af (2:Int)) (af (4:Int))::bj (af (2:Int)) (bj (af (2:Int)) (af (2:Int)))::([]:D8)++cj (Int.tdiv n (2:Int)) (0:Int)::([]:D8)))+FC.len (mT n)))
def EZ(n:Int):=(au (FC.len (FC.r3 IntKind.i64 (af n::([]:D8)++bj (af (2:Int)) (af (2:Int))::([]:D8)++cj (Int.tdiv n (2:Int)) (0:Int)::([]:D8)))+FC.len (mT n)))
def E3(n:Int):=(au (FC.len (FC.r3 IntKind.i64 (af n::([]:D8)++bj (af (3:Int)) (af (3:Int))::([]:D8)++cj (Int.tdiv n (2:Int)) (0:Int)::([]:D8)))+FC.len (mT n)))
def E4(n:Int):=(au (FC.len (FC.r3 IntKind.i64 (af n::([]:D8)++bj (af (2:Int)) (af (6:Int))::([]:D8)++cj (Int.tdiv n (2:Int)) (0:Int)::([]:D8)))+FC.len (mT n)))
def lM:=(am ((af (2:Int)).length) (af (2:Int)))
def oI(n:Int):=(FC.r3 IntKind.i64 (af n::([]:D8)))
def E5(n:Int):Prop :=
 (((((1:Int)<=n)/\(n<=(12:Int)))/\True)/\(ab (n == (4:Int)) (((((1:Int)<=(2:Int))/\((2:Int)<=(12:Int)))/\True)/\(((((1:Int)<=(2:Int))/\((2:Int)<=(12:Int)))/\True)/\((((lM)/\((lM)/\(((1:Nat)<=(af (2:Int)).length)/\(((af (2:Int)).length<=(144:Nat))/\((af (2:Int)).length<=(144:Nat))))))/\True)/\((au (FC.len (oI n)+FC.len (FC.r3 IntKind.i64 (bj (af (2:Int)) (af (2:Int))::([]:D8)))))/\(ab (decide ((6:Int)<=n)) (((2:Int)≠(0:Int))/\(ab (Int.tmod n (2:Int) == (0:Int)) ((((2:Int)≠(0:Int))/\(ae (Int.tdiv n (2:Int))))/\(((((1:Int)<=Int.tdiv n (2:Int))/\((Int.tdiv n (2:Int)<=(12:Int))/\(((0:Int)<=(0:Int))/\((0:Int)<=(12:Int)))))/\True)/\((au (FC.len (FC.r3 IntKind.i64 (af n::([]:D8)++bj (af (2:Int)) (af (2:Int))::([]:D8)))+FC.len (oH n)))/\(ab (n == (8:Int)) ((((2:Int)≠(0:Int))/\(ae (Int.tdiv n (2:Int))))/\((((4:Int)≠(0:Int))/\(ae (Int.tdiv n (4:Int))))/\(((((1:Int)<=Int.tdiv n (2:Int))/\((Int.tdiv n (2:Int)<=(12:Int))/\(((0:Int)<=Int.tdiv n (4:Int))/\(Int.tdiv n (4:Int)<=(12:Int)))))/\True)/\((EZ n)/\(ET n))))) (ab (n == (12:Int)) ((((2:Int)≠(0:Int))/\(ae (Int.tdiv n (2:Int))))/\((((4:Int)≠(0:Int))/\(ae (Int.tdiv n (4:Int))))/\(((((1:Int)<=Int.tdiv n (2:Int))/\((Int.tdiv n (2:Int)<=(12:Int))/\(((0:Int)<=Int.tdiv n (4:Int))/\(Int.tdiv n (4:Int)<=(12:Int)))))/\True)/\((EZ n)/\(ET n))))) (ab (n == (12:Int)) False
 ((af n::([]:D8)++bj (af (2:Int)) (af (2:Int))::([]:D8)++cj (Int.tdiv n (2:Int)) (0:Int)::([]:D8)=aE n)/\True))))))) (EJ n))) (EJ n)))))) (ab (n == (8:Int)) (((((1:Int)<=(2:Int))/\((2:Int)<=(12:Int)))/\True)/\(((((1:Int)<=(2:Int))/\((2:Int)<=(12:Int)))/\True)/\((((lM)/\((lM)/\(((1:Nat)<=(af (2:Int)).length)/\(((af (2:Int)).length<=(144:Nat))/\((af (2:Int)).length<=(144:Nat))))))/\True)/\(((((1:Int)<=(2:Int))/\((2:Int)<=(12:Int)))/\True)/\(((((1:Int)<=(4:Int))/\((4:Int)<=(12:Int)))/\True)/\((((lM)/\((am ((af (4:Int)).length) (af (4:Int)))/\(((1:Nat)<=(af (4:Int)).length)/\(((af (2:Int)).length<=(144:Nat))/\((af (4:Int)).length<=(144:Nat))))))/\True)/\(((((1:Int)<=(2:Int))/\((2:Int)<=(12:Int)))/\True)/\((((lM)/\((am ((bj (af (2:Int)) (af (2:Int))).length) (bj (af (2:Int)) (af (2:Int))))/\(((1:Nat)<=(bj (af (2:Int)) (af (2:Int))).length)/\(((af (2:Int)).length<=(144:Nat))/\((bj (af (2:Int)) (af (2:Int))).length<=(144:Nat))))))/\True)/\((au (FC.len (oI n)+FC.len (FC.r3 IntKind.i64 (bj (af (2:Int)) (af (4:Int))::bj (af (2:Int)) (bj (af (2:Int)) (af (2:Int)))::([]:D8)))))/\(ab (decide ((6:Int)<=n)) (((2:Int)≠(0:Int))/\(ab (Int.tmod n (2:Int) == (0:Int)) ((((2:Int)≠(0:Int))/\(ae (Int.tdiv n (2:Int))))/\(((((1:Int)<=Int.tdiv n (2:Int))/\((Int.tdiv n (2:Int)<=(12:Int)) /\
 (((0:Int)<=(0:Int))/\((0:Int)<=(12:Int)))))/\True)/\((au (FC.len (FC.r3 IntKind.i64 (af n::([]:D8)++bj (af (2:Int)) (af (4:Int))::bj (af (2:Int)) (bj (af (2:Int)) (af (2:Int)))::([]:D8)))+FC.len (oH n)))/\(ab (n == (8:Int)) ((((2:Int)≠(0:Int))/\(ae (Int.tdiv n (2:Int))))/\((((4:Int)≠(0:Int))/\(ae (Int.tdiv n (4:Int))))/\(((((1:Int)<=Int.tdiv n (2:Int))/\((Int.tdiv n (2:Int)<=(12:Int))/\(((0:Int)<=Int.tdiv n (4:Int))/\(Int.tdiv n (4:Int)<=(12:Int)))))/\True)/\((EY n)/\(ES n))))) (ab (n == (12:Int)) ((((2:Int)≠(0:Int))/\(ae (Int.tdiv n (2:Int))))/\((((4:Int)≠(0:Int))/\(ae (Int.tdiv n (4:Int))))/\(((((1:Int)<=Int.tdiv n (2:Int))/\((Int.tdiv n (2:Int)<=(12:Int))/\(((0:Int)<=Int.tdiv n (4:Int))/\(Int.tdiv n (4:Int)<=(12:Int)))))/\True)/\((EY n)/\(ES n))))) (ab (n == (12:Int)) False ((af n::([]:D8)++bj (af (2:Int)) (af (4:Int))::bj (af (2:Int)) (bj (af (2:Int)) (af (2:Int)))::([]:D8)++cj (Int.tdiv n (2:Int)) (0:Int)::([]:D8)=aE n)/\True))))))) (EG n))) (EG n))))))))))) (ab (n == (9:Int)) (((((1:Int)<=(3:Int))/\((3:Int)<=(12:Int)))/\True)/\(((((1:Int)<=(3:Int))/\((3:Int)<=(12:Int)))/\True)/\((((am ((af (3:Int)).length) (af (3:Int)))/\((am ((af (3:Int)).length) (af (3:Int)))/\(((1:Nat)<=(af (3:Int)).length)/\(((af (3:Int)).length<=(144:Nat)) /\
 ((af (3:Int)).length<=(144:Nat))))))/\True)/\((au (FC.len (oI n)+FC.len (FC.r3 IntKind.i64 (bj (af (3:Int)) (af (3:Int))::([]:D8)))))/\(ab (decide ((6:Int)<=n)) (((2:Int)≠(0:Int))/\(ab (Int.tmod n (2:Int) == (0:Int)) ((((2:Int)≠(0:Int))/\(ae (Int.tdiv n (2:Int))))/\(((((1:Int)<=Int.tdiv n (2:Int))/\((Int.tdiv n (2:Int)<=(12:Int))/\(((0:Int)<=(0:Int))/\((0:Int)<=(12:Int)))))/\True)/\((au (FC.len (FC.r3 IntKind.i64 (af n::([]:D8)++bj (af (3:Int)) (af (3:Int))::([]:D8)))+FC.len (oH n)))/\(ab (n == (8:Int)) ((((2:Int)≠(0:Int))/\(ae (Int.tdiv n (2:Int))))/\((((4:Int)≠(0:Int))/\(ae (Int.tdiv n (4:Int))))/\(((((1:Int)<=Int.tdiv n (2:Int))/\((Int.tdiv n (2:Int)<=(12:Int))/\(((0:Int)<=Int.tdiv n (4:Int))/\(Int.tdiv n (4:Int)<=(12:Int)))))/\True)/\((E3 n)/\(EU n))))) (ab (n == (12:Int)) ((((2:Int)≠(0:Int))/\(ae (Int.tdiv n (2:Int))))/\((((4:Int)≠(0:Int))/\(ae (Int.tdiv n (4:Int))))/\(((((1:Int)<=Int.tdiv n (2:Int))/\((Int.tdiv n (2:Int)<=(12:Int))/\(((0:Int)<=Int.tdiv n (4:Int))/\(Int.tdiv n (4:Int)<=(12:Int)))))/\True)/\((E3 n)/\(EU n))))) (ab (n == (12:Int)) False ((af n::([]:D8)++bj (af (3:Int)) (af (3:Int))::([]:D8)++cj (Int.tdiv n (2:Int)) (0:Int)::([]:D8)=aE n)/\True))))))) (EM n))) (EM n)))))) (ab (n == (12:Int))
 (((((1:Int)<=(2:Int))/\((2:Int)<=(12:Int)))/\True)/\(((((1:Int)<=(6:Int))/\((6:Int)<=(12:Int)))/\True)/\((((lM)/\((am ((af (6:Int)).length) (af (6:Int)))/\(((1:Nat)<=(af (6:Int)).length)/\(((af (2:Int)).length<=(144:Nat))/\((af (6:Int)).length<=(144:Nat))))))/\True)/\((au (FC.len (oI n)+FC.len (FC.r3 IntKind.i64 (bj (af (2:Int)) (af (6:Int))::([]:D8)))))/\(ab (decide ((6:Int)<=n)) (((2:Int)≠(0:Int))/\(ab (Int.tmod n (2:Int) == (0:Int)) ((((2:Int)≠(0:Int))/\(ae (Int.tdiv n (2:Int))))/\(((((1:Int)<=Int.tdiv n (2:Int))/\((Int.tdiv n (2:Int)<=(12:Int))/\(((0:Int)<=(0:Int))/\((0:Int)<=(12:Int)))))/\True)/\((au (FC.len (FC.r3 IntKind.i64 (af n::([]:D8)++bj (af (2:Int)) (af (6:Int))::([]:D8)))+FC.len (oH n)))/\(ab (n == (8:Int)) ((((2:Int)≠(0:Int))/\(ae (Int.tdiv n (2:Int))))/\((((4:Int)≠(0:Int))/\(ae (Int.tdiv n (4:Int))))/\(((((1:Int)<=Int.tdiv n (2:Int))/\((Int.tdiv n (2:Int)<=(12:Int))/\(((0:Int)<=Int.tdiv n (4:Int))/\(Int.tdiv n (4:Int)<=(12:Int)))))/\True)/\((E4 n)/\(EW n))))) (ab (n == (12:Int)) ((((2:Int)≠(0:Int))/\(ae (Int.tdiv n (2:Int))))/\((((4:Int)≠(0:Int))/\(ae (Int.tdiv n (4:Int))))/\(((((1:Int)<=Int.tdiv n (2:Int))/\((Int.tdiv n (2:Int)<=(12:Int))/\(((0:Int)<=Int.tdiv n (4:Int))/\(Int.tdiv n (4:Int)<=(12:Int)))))/\True)/\((E4 n)/\(EW n))))) (ab (n == (12:Int)) False
 ((af n::([]:D8)++bj (af (2:Int)) (af (6:Int))::([]:D8)++cj (Int.tdiv n (2:Int)) (0:Int)::([]:D8)=aE n)/\True))))))) (EP n))) (EP n)))))) (ab (decide ((6:Int)<=n)) (((2:Int)≠(0:Int))/\(ab (Int.tmod n (2:Int) == (0:Int)) ((((2:Int)≠(0:Int))/\(ae (Int.tdiv n (2:Int))))/\(((((1:Int)<=Int.tdiv n (2:Int))/\((Int.tdiv n (2:Int)<=(12:Int))/\(((0:Int)<=(0:Int))/\((0:Int)<=(12:Int)))))/\True)/\((au (FC.len (oI n)+FC.len (oH n)))/\(ab (n == (8:Int)) ((((2:Int)≠(0:Int))/\(ae (Int.tdiv n (2:Int))))/\((((4:Int)≠(0:Int))/\(ae (Int.tdiv n (4:Int))))/\(((((1:Int)<=Int.tdiv n (2:Int))/\((Int.tdiv n (2:Int)<=(12:Int))/\(((0:Int)<=Int.tdiv n (4:Int))/\(Int.tdiv n (4:Int)<=(12:Int)))))/\True)/\((au (FC.len (FC.r3 IntKind.i64 (af n::([]:D8)++cj (Int.tdiv n (2:Int)) (0:Int)::([]:D8)))+FC.len (mT n)))/\(EX n))))) (ab (n == (12:Int)) ((((2:Int)≠(0:Int))/\(ae (Int.tdiv n (2:Int))))/\((((4:Int)≠(0:Int))/\(ae (Int.tdiv n (4:Int))))/\(((((1:Int)<=Int.tdiv n (2:Int))/\((Int.tdiv n (2:Int)<=(12:Int))/\(((0:Int)<=Int.tdiv n (4:Int))/\(Int.tdiv n (4:Int)<=(12:Int)))))/\True)/\((au (FC.len (FC.r3 IntKind.i64 (af n::([]:D8)++cj (Int.tdiv n (2:Int)) (0:Int)::([]:D8)))+FC.len (mT n)))/\(EX n))))) (ab (n == (12:Int)) False
 ((af n::([]:D8)++cj (Int.tdiv n (2:Int)) (0:Int)::([]:D8)=aE n)/\True))))))) (ER n))) (ER n)))))))
def W8(n:Int):aP Tryz.prog (ah M9) M8 ar Tryz.f126 (aI Tryz.f126) [] [.c (.int .i64 n)] (uo n)=E5 n:=by kernel_rfl
def W9(n:Int)(ξ:(uo n).pre):E5 n:=by
 simp only[uo,E5,EX,EW,EU,ET,ES,ER,EN,EP,EK,EM,EH,EJ,EE,EG,EF,EI,EL,EO,EQ,mT,oH,EY,EZ,E3,E4,lM,oI,aO]at ξ⊢;obtain⟨h1,h2⟩:=ξ;have l2:(af 2).length=2:=by have:=mS (n:=2) (by omega);omega
 have l4:(af 4).length=4:=by have:=mS (n:=4) (by omega);omega
 have t2:=qt (n:=2) (by omega)
 have t4:=qt (n:=4) (by omega)
 have l22:(bj (af 2) (af 2)).length=4:=by rw[bj,mI,l2]
 have t22:am 4 (bj (af 2) (af 2)):=by
  have:=un (t:=bj (af 2) (af 2)) (by decide +kernel)
  rw[l22]at this;exact this
 rw[l2]at t2;rw[l4]at t4;have:n=1\/n=2\/n=3\/n=4\/n=5\/n=6\/n=7\/n=8:=by omega
 rcases this with rfl|rfl|rfl|rfl|rfl|rfl|rfl|rfl<;>simp[l2,t2,l4,t4,l22,t22,aE,FC.len]
def E6:Fits Tryz.prog 126 ⟨[],qv⟩:=by
 refine aQ (Γ:=ah M9) (aq Qy (aq QC (aq ac1 aN))) Tryz.func126 λds p h hp=>?_
 unfold qv at h;split at h
 ·cases h
  exact⟨M8,ar,by rw[W8];exact W9 _  hp⟩
 ·cases h
def Xa{n:Int}(h1:1<=n)(h2:n<=7):∀t∈aE n,(t.length:Int)=n/\bX t=true/\(dL t.length [t] [t]).length<=100:=by
 have:n=1\/n=2\/n=3\/n=4\/n=5\/n=6\/n=7:=by omega
 rcases this with rfl|rfl|rfl|rfl|rfl|rfl|rfl<;>decide +kernel
def Xb{n:Int}(h1:1<=n)(h2:n<=8):∀t∈aE n,(t.length:Int)=n/\bX t=true:=by
 have:n=1\/n=2\/n=3\/n=4\/n=5\/n=6\/n=7\/n=8:=by omega
 rcases this with rfl|rfl|rfl|rfl|rfl|rfl|rfl|rfl<;>decide +kernel
def Xc{n:Int}(h1:1<=n)(h2:n<=7){t:D7}(ht:t∈aE n):(t.length:Int)=n/\bX t=true/\am t.length t/\AuOk t.length (aa t)/\(aa t).length<=100/\gO (aa t) 0 0=0:=by
 obtain⟨a,b,c⟩:=Xa h1 h2 t ht;have T:=un b
 have E:aa t=(dL t.length [t] [t]).take 1000000:=by
  rw[aa,dG,AA rfl];exact pa (n:=t.length) (kN T) rfl (by omega) (by omega)
 have L:(aa t).length<=100:=by rw[E,AP];omega
 obtain⟨x,y⟩:=mX T (by omega) (by omega)
 exact⟨a,b,T,x,L,y⟩
def Xd{n:Int}(h1:1<=n)(h2:n<=8){t:D7}(ht:t∈aE n):(t.length:Int)=n/\bX t=true/\am t.length t:=by
 obtain⟨a,b⟩:=Xb h1 h2 t ht;exact⟨a,b,un b⟩
def oJ(d:Nat)(t:D7)(A:D7)(K:D6)(out:D8):Post:=⟨aB K<d/\t.length<=12/\am t.length t/\AuOk t.length A/\A.length<=100/\KOk t.length A.length K/\(∀c,c∈out->am t.length c)/\out.length+100 ^ aB K<=1099511627775,.c (.ro (.r3 .i64 ((bH t A d K out)))),[.rows 62 2 .i64 t]⟩
def qw(d:Nat):List AD->Option Post
 | [.c (.rows .i64 t),.c (.rows .i64 A),.c (.ints .i64 K),.c (.r3 .i64 out)]=>some (oJ d t A K out)
 |_=>none
def Na(d:Nat)(t:D7)(A:D7)(K:D6)(out:D8):Nat->Option Ann
 |0=>Q' λx=>⟨⟨[(0,J' 700),(1,G' A),(2,D' K),(3,I' out),(9,A' x)],[(700,N' t)]⟩,(x<=K.length/\(∀j,j<x->0<=K.getD j 0)),K.length-x⟩
 |1004=>some (Ann.mk ((Unit)) (λu=>⟨[(0,J' 700),(1,G' A),(2,D' K),(3,I' out),(9,A' (av K:Int))],[(700,N' t)]⟩) (λu=>True) (λu=>0) (λu=>λb_=>match b_ with|2=>Q' λy=>⟨⟨[(0,J' 700),(1,G' A),(2,D' K),(3,I' out),(9,A' (av K:Int)),(10,J' 10),(11,A' y)],[(10,N' (((List.range y).map λy=>aR (A.getD (K.getD y 0).toNat []) (t.getD y [])))),(700,N' t)]⟩,y<=t.length/\av K=K.length,t.length-y⟩|4=>Q' λj=>⟨⟨[(0,J' 700),(1,G' A),(2,D' K),(3,I' out),(9,A' (av K:Int)),(10,G' (bf t A K)),(12,A' j)],[(700,N' t)]⟩,(j<=out.length/\av K=K.length/\(∀j1,j1<j->bO (out.getD j1 []) (bf t A K)=true)),out.length-j⟩|1013=>some (Ann.mk ((Unit)) (λu=>⟨[(0,J' 700),(3,I' out),(10,G' (bf t A K)),(12,A' (ca (bf t A K) out:Int))],[(700,N' t)]⟩) (λu=>av K=K.length) (λu=>0) (λ_=>ar))|6=>Q' λi=>⟨⟨[(0,J' 700),(1,G' A),(2,D' K),(3,I' (cA (bZ t A (bH t A (d-1)) K) out i)),(9,A' (av K:Int)),(14,A' i)],[(700,N' t)]⟩,i<=A.length/\av K≠K.length,A.length-i⟩|_=>none))
 |_=>none
def Nb(d:Nat):List (Nat×Ctr):=[(189,⟨[],qC⟩),(142,⟨[],qH⟩),(144,⟨[],nq⟩),(190,⟨[],uk⟩),(136,⟨[(0,0)],qw d⟩)]
def E7(d:Nat)(t:D7)(A:D7)(K:D6)(out:D8):Prop :=
 (((∃x0:Nat,(((x0<=K.length)/\(∀(j:Nat),j<x0->(0:Int)<=K.getD j (0:Int)))/\((A=A)/\((K=K)/\((out=out)/\(((0:Int)=(↑x0:Int))/\(t=t)))))))/\(∀x1:Nat,(((x1<=K.length)/\(∀(j:Nat),j<x1->(0:Int)<=K.getD j (0:Int)))->(ab (decide ((↑x1:Int)<(↑(K.length):Int))) ((ac (↑x1:Int) K.length)/\(ab (decide ((0:Int)<=K.getD (↑x1:Int).toNat (0:Int))) ((ae ((↑x1:Int)+(1:Int)))/\(∃x2:Nat,(((x2<=K.length)/\(∀(j:Nat),j<x2->(0:Int)<=K.getD j (0:Int)))/\((K.length-x2<K.length-x1)/\((A=A)/\((K=K)/\((out=out)/\(((↑x1:Int)+(1:Int)=(↑x2:Int))/\(t=t))))))))) (∃x3:Unit,(True/\((A=A)/\((K=K)/\((out=out)/\(((↑x1:Int)=(↑(av K):Int))/\(t=t))))))))) (∃x4:Unit,(True/\((A=A)/\((K=K)/\((out=out)/\(((↑x1:Int)=(↑(av K):Int))/\(t=t)))))))))))/\(∀x5:Unit,(True->(ab ((↑(av K):Int) == (↑(K.length):Int)) ((∃x6:Nat,(((x6<=t.length)/\(av K=K.length))/\((A=A)/\((K=K)/\((out=out)/\(((↑(av K):Int)=(↑(av K):Int))/\(((0:Int)=(↑x6:Int))/\((([]:D7)=List.map (λ(y:Nat)=>aR (A.getD ((K.getD y (0:Int)).toNat) []) (t.getD y [])) (List.range x6))/\(t=t)))))))))/\(∀x7:Nat,(((x7<=t.length)/\(av K=K.length))->(ab (decide ((↑x7:Int)<(↑(t.length):Int))) ((ac (↑x7:Int) K.length)/\((ac (K.getD (↑x7:Int).toNat (0:Int)) A.length)/\((ac (↑x7:Int) t.length)/\((((au ((A.getD ((K.getD (↑x7:Int).toNat (0:Int)).toNat) []).length)) /\
 (gN ((t.getD (↑x7:Int).toNat []).length) (A.getD ((K.getD (↑x7:Int).toNat (0:Int)).toNat) [])))/\True)/\((au ((List.map (λ(y:Nat)=>aR (A.getD ((K.getD y (0:Int)).toNat) []) (t.getD y [])) (List.range x7)).length+(aR (A.getD ((K.getD (↑x7:Int).toNat (0:Int)).toNat) []) (t.getD (↑x7:Int).toNat [])::([]:D7)).length))/\((ae ((↑x7:Int)+(1:Int)))/\(∃x8:Nat,(((x8<=t.length)/\(av K=K.length))/\((t.length-x8<t.length-x7)/\((A=A)/\((K=K)/\((out=out)/\(((↑(av K):Int)=(↑(av K):Int))/\(((↑x7:Int)+(1:Int)=(↑x8:Int))/\((List.map (λ(y:Nat)=>aR (A.getD ((K.getD y (0:Int)).toNat) []) (t.getD y [])) (List.range x7)++aR (A.getD ((K.getD (↑x7:Int).toNat (0:Int)).toNat) []) (t.getD (↑x7:Int).toNat [])::([]:D7)=List.map (λ(y:Nat)=>aR (A.getD ((K.getD y (0:Int)).toNat) []) (t.getD y [])) (List.range x8))/\(t=t)))))))))))))))) (((∃x9:Nat,(((x9<=out.length)/\((av K=K.length)/\(∀(j1:Nat),j1<x9->bO (out.getD j1 ([]:D7)) (bf t A K)=true)))/\((A=A)/\((K=K)/\((out=out)/\(((↑(av K):Int)=(↑(av K):Int))/\((List.map (λ(y:Nat)=>aR (A.getD ((K.getD y (0:Int)).toNat) []) (t.getD y [])) (List.range x7)=bf t A K)/\(((0:Int)=(↑x9:Int))/\(t=t)))))))))/\(∀x10:Nat,(((x10<=out.length)/\((av K=K.length)/\(∀(j1:Nat),j1<x10->bO (out.getD j1 ([]:D7)) (bf t A K)=true)))->(ab (decide ((↑x10:Int)<(↑(out.length):Int)))
 ((ac (↑x10:Int) out.length)/\((((aJ (out.getD (↑x10:Int).toNat ([]:D7)))/\((aJ (bf t A K))/\((out.getD (↑x10:Int).toNat ([]:D7)).length=(bf t A K).length)))/\True)/\(ab (bO (out.getD (↑x10:Int).toNat ([]:D7)) (bf t A K)) ((ae ((↑x10:Int)+(1:Int)))/\(∃x11:Nat,(((x11<=out.length)/\((av K=K.length)/\(∀(j1:Nat),j1<x11->bO (out.getD j1 ([]:D7)) (bf t A K)=true)))/\((out.length-x11<out.length-x10)/\((A=A)/\((K=K)/\((out=out)/\(((↑(av K):Int)=(↑(av K):Int))/\((bf t A K=bf t A K)/\(((↑x10:Int)+(1:Int)=(↑x11:Int))/\(t=t))))))))))) (∃x12:Unit,((av K=K.length)/\((out=out)/\((bf t A K=bf t A K)/\(((↑x10:Int)=(↑(ca (bf t A K) out):Int))/\(t=t))))))))) (∃x13:Unit,((av K=K.length)/\((out=out)/\((bf t A K=bf t A K)/\(((↑x10:Int)=(↑(ca (bf t A K) out):Int))/\(t=t))))))))))/\(∀x14:Unit,((av K=K.length)->((bS out.length (Option.some (↑(ca (bf t A K) out):Int)) Option.none)/\((au (FC.len (FC.r3 IntKind.i64 (bf t A K::([]:D8)))+FC.len (FC.r3 IntKind.i64 (cZ out (Option.some (↑(ca (bf t A K) out):Int)) Option.none))))/\((bS out.length Option.none (Option.some (↑(ca (bf t A K) out):Int)))/\((au (FC.len (FC.r3 IntKind.i64 ([]:D8))+FC.len (FC.r3 IntKind.i64 (cZ out Option.none (Option.some (↑(ca (bf t A K) out):Int)))))) /\
 ((au (FC.len (FC.r3 IntKind.i64 (([]:D8)++cZ out Option.none (Option.some (↑(ca (bf t A K) out):Int))))+FC.len (FC.r3 IntKind.i64 (bf t A K::([]:D8)++cZ out (Option.some (↑(ca (bf t A K) out):Int)) Option.none))))/\((([]:D8)++cZ out Option.none (Option.some (↑(ca (bf t A K) out):Int))++(bf t A K::([]:D8)++cZ out (Option.some (↑(ca (bf t A K) out):Int)) Option.none)=bH t A (d+(1:Nat)) K out)/\((t=t)/\True)))))))))))))) ((∃x15:Nat,(((x15<=A.length)/\(av K≠K.length))/\((A=A)/\((K=K)/\((out=cA (bZ t A (bH t A (d+(1:Nat)-(1:Nat))) K) out x15)/\(((↑(av K):Int)=(↑(av K):Int))/\(((0:Int)=(↑x15:Int))/\(t=t))))))))/\(∀x16:Nat,(((x16<=A.length)/\(av K≠K.length))->(ab (decide ((↑x16:Int)<(↑(A.length):Int))) (((au K.length)/\True)/\((ac (↑(av K):Int) K.length)/\((((t.length<=(12:Nat))/\((am t.length t)/\((AuOk t.length A)/\((A.length<=(1000000:Nat))/\(KOk t.length A.length (List.set K ((↑(av K):Int).toNat) (↑x16:Int)))))))/\True)/\(ab ((dI t A (List.set K ((↑(av K):Int).toNat) (↑x16:Int))).2) ((((aB ((dI t A (List.set K ((↑(av K):Int).toNat) (↑x16:Int))).1)<d)/\((t.length<=(12:Nat))/\((am t.length t)/\((AuOk t.length A)/\((A.length<=(100:Nat))/\((KOk t.length A.length ((dI t A (List.set K ((↑(av K):Int).toNat) (↑x16:Int))).1)) /\
 ((∀(c:D7),c∈cA (bZ t A (bH t A (d+(1:Nat)-(1:Nat))) K) out x16->am t.length c)/\((cA (bZ t A (bH t A (d+(1:Nat)-(1:Nat))) K) out x16).length+(100:Nat) ^ aB ((dI t A (List.set K ((↑(av K):Int).toNat) (↑x16:Int))).1)<=(1099511627775:Nat)))))))))/\((List.map List.length t=List.map List.length t)/\True))/\((ae ((↑x16:Int)+(1:Int)))/\(∃x17:Nat,(((x17<=A.length)/\(av K≠K.length))/\((A.length-x17<A.length-x16)/\((A=A)/\((K=K)/\((bH t A d ((dI t A (List.set K ((↑(av K):Int).toNat) (↑x16:Int))).1) (cA (bZ t A (bH t A (d+(1:Nat)-(1:Nat))) K) out x16)=cA (bZ t A (bH t A (d+(1:Nat)-(1:Nat))) K) out x17)/\(((↑(av K):Int)=(↑(av K):Int))/\(((↑x16:Int)+(1:Int)=(↑x17:Int))/\(t=t))))))))))) ((ae ((↑x16:Int)+(1:Int)))/\(∃x18:Nat,(((x18<=A.length)/\(av K≠K.length))/\((A.length-x18<A.length-x16)/\((A=A)/\((K=K)/\((cA (bZ t A (bH t A (d+(1:Nat)-(1:Nat))) K) out x16=cA (bZ t A (bH t A (d+(1:Nat)-(1:Nat))) K) out x18)/\(((↑(av K):Int)=(↑(av K):Int))/\(((↑x16:Int)+(1:Int)=(↑x18:Int))/\(t=t)))))))))))))) ((cA (bZ t A (bH t A (d+(1:Nat)-(1:Nat))) K) out x16=bH t A (d+(1:Nat)) K out)/\((t=t)/\True))))))))))
def Xe(d:Nat)(t:D7)(A:D7)(K:D6)(out:D8):aP Tryz.prog (ah (Nb d)) aj (Na (d+1) t A K out) Tryz.f136 (aI Tryz.f136) [(0,0)] [.c (.rows .i64 t),.c (.rows .i64 A),.c (.ints .i64 K),.c (.r3 .i64 out)] (oJ (d+1) t A K out)=E7 d t A K out:=by kernel_rfl
def Xf(d:Nat)(t:D7)(A:D7)(K:D6)(out:D8)(ξ:(oJ (d+1) t A K out).pre):E7 d t A K out:=by
 simp only[oJ,E7,aO]at ξ⊢;simp only[FC.len,cZ,An];obtain⟨h1,h2,h3,h4,h5,h6,h7,h8⟩:=ξ;have kl:=h6.len
 have pl:=lO K
 have p1:1<=100 ^ aB K:=Cs _ _ (by omega)
 refine⟨⟨⟨0,⟨by omega,λj h=>by omega⟩,rfl⟩,λx ⟨hx,ix⟩=>⟨λg=>⟨by omega,λq=>⟨by omega,x+1,⟨by omega,λj hj=>?_⟩,by omega,by omega⟩,λq=>⟨⟨⟩,?_⟩⟩,λg=>⟨⟨⟩,?_⟩⟩⟩,λ_ _=>⟨λhp=>?_,λhp=>?_⟩⟩
 ·by_cases e:j=x
  ·subst e;exact q
  ·exact ix j (by omega)
 ·rw[qF K x ix hx (λ_=>by omega)]
 ·rw[qF K x ix hx (λz=>absurd z (by omega))]
 ·have hp:av K=K.length:=by omega
  have T:=ul h3 h4 h6 hp
  have PC:=uS (bf t A K) out
  have o7:∀j,j<out.length->am t.length (out.getD j []):=λj hj=>h7 _ (bN out [] j hj)
  have e1:av K=K.length:=hp
  refine⟨⟨0,⟨by omega,e1⟩,rfl,rfl⟩,λy ⟨hy,_⟩=>⟨λg=>?_,λg=>?_⟩⟩
  ·have hk:=oU K hp y (by omega)
   have hr:=h6.rng y (by omega)
   have L:=h4.len (K.getD y 0).toNat (by omega)
   have Lt:=(h3.2 y (by omega)).1
   refine⟨by omega,by omega,by omega,⟨by omega,λi hi=>?_⟩,by simp;omega,by omega,y+1,⟨by omega,e1⟩,by omega,by omega,?_⟩
   ·have:=h4.rng (K.getD y 0).toNat i (by omega) (by omega)
    rw[Lt];exact this
   ·rw[qP]
  ·have cT:(List.range y).map (λy=>aR (A.getD (K.getD y 0).toNat []) (t.getD y []))=bf t A K:=by rw[show y=t.length by omega];rfl
   refine⟨⟨⟨0,⟨by omega,e1,λj h=>by omega⟩,cT,rfl⟩,λj ⟨hj,_,ij⟩=>⟨λg2=>⟨by omega,⟨mR (o7 j (by omega)) h2,mR T h2,by rw[(o7 j (by omega)).1,T.1]⟩,λq=>⟨by omega,j+1,⟨by omega,e1,λj1 hj1=>?_⟩,by omega,by omega⟩,λq=>⟨⟨⟩,e1,?_⟩⟩,λg2=>⟨⟨⟩,e1,?_⟩⟩⟩,λ_ _=>?_⟩
   ·by_cases e:j1=j
    ·subst e;exact q
    ·exact ij j1 (by omega)
   ·rw[qE _ out j ij hj (λ_=>q)]
   ·rw[qE _ out j ij hj (λz=>absurd z (by omega))]
   ·simp only[AR,Bo,Ag,AP,BD,BT]
    refine⟨by omega,by omega,by omega,by omega,by omega,?_⟩
    rw[bH,AA hp,fL];rfl
 ·have hp:av K≠K.length:=by omega
  have hx:av K<K.length:=by omega
  have NG:=uV hx (i:=0)
  have P:100 ^ aB K=100 ^ (aB K-1)*100:=by rw[<-B8];congr 1;omega
  have B:∀i,i<=A.length->(∀c,c∈cA (bZ t A (bH t A d) K) out i->am t.length c)/\(cA (bZ t A (bH t A d) K) out i).length<=out.length+i*100 ^ (aB K-1):=λi hi=>by
   constructor
   ·refine qG (P:=λo=>∀c,c∈o->am t.length c) h7 i λj o hj hP=>?_
    unfold bZ;split
    ·exact hP
    ·rename_i K' hs
     exact uW h3 h4 (λK hK hp=>ul h3 h4 hK hp) d K' o (ji h3 h4 h6 hx (by omega) hs).1 hP
   ·refine uX i λj o hj=>?_
    unfold bZ;split
    ·omega
    ·rename_i K' hs
     have q:=ji h3 h4 h6 hx (by omega) hs
     have a:=FO h3 h4 (M:=100) h5 (by omega) d K' o q.1
     have b:100 ^ aB K'<=100 ^ (aB K-1):=Bv (by omega) (by omega)
     omega
  refine⟨⟨0,⟨by omega,hp⟩,rfl,rfl⟩,λi ⟨hi,_⟩=>⟨λg=>?_,λg=>?_⟩⟩
  ·obtain⟨B1,B2⟩:=B i hi
   have hk:=h6.set (av K) (w:=(i:Int)) ⟨by omega,by omega⟩
   have step:∀r,bZ t A (bH t A d) K i (cA (bZ t A (bH t A d) K) out i)=r->r=cA (bZ t A (bH t A d) K) out (i+1):=λr e=>by rw[cA,e]
   refine⟨by omega,by omega,⟨h2,h3,h4,by omega,hk⟩,λq=>?_,λq=>⟨by omega,i+1,⟨by omega,hp⟩,by omega,step _ ?_,by omega⟩⟩
   ·have ok:=M0 q
    have N:=ji h3 h4 h6 hx (i:=i) (by omega) ok
    have b:100 ^ aB (dI t A (K.set (av K) (i:Int))).1<=100 ^ (aB K-1):=Bv (by omega) (by omega)
    have c:i*100 ^ (aB K-1)+100 ^ (aB K-1)<=100 ^ (aB K-1)*100:=by
     rw[<-Ce,B9];exact Cb _ (by omega)
    refine⟨⟨by omega,h2,h3,h4,h5,N.1,B1,?_⟩,by omega,i+1,⟨by omega,hp⟩,by omega,step _ ?_,by omega⟩
    ·show(cA (bZ t A (bH t A d) K) out i).length+_<=_
     omega
    ·exact M2 ok
   ·exact M3 (M1 q)
  ·rw[bH,AB hp,show i=A.length by omega];rfl
def Xg(t:D7)(A:D7)(K:D6)(out:D8)(h:(oJ 0 t A K out).pre):False:=by
 simp only[oJ]at h;omega
def Xh(d:Nat):Fits Tryz.prog 136 ⟨[(0,0)],qw d⟩:=by
 induction d with
 |zero =>
  refine yM ⟨Tryz.f136,Tryz.func136,by kernel_rfl,by kernel_rfl⟩ (by decide) λds p h hp=>?_
  unfold qw at h;split at h
  ·cases h
   exact Xg _ _ _ _  hp
  ·cases h
 |succ d ih =>
  refine qe (Γ:=ah (Nb d)) (aq FM (aq FT (aq rt (aq MZ (aq ih aN))))) Tryz.func136 (by kernel_rfl) (by kernel_rfl) (by kernel_rfl) λds p h hp=>?_
  unfold qw at h;split at h
  ·cases h
   exact⟨aj,Na _ _ _ _ _ ,by rw[Xe];exact Xf _ _ _ _ _  hp⟩
  ·cases h
def E8:List AD->Option Post
 | [.c (.rows .i64 t)]=>some ⟨bX t=true/\AuOk t.length (aa t)/\(aa t).length<=100/\t.length<=7,.c (.ro (.r3 .i64 (aF t (aa t)))),[.rows 62 2 .i64 t]⟩
 |_=>none
def Nc(t:D7):Nat->Option Ann
 |0=>Q' λi=>⟨⟨[(0,J' 700),(3,J' 3),(4,A' i)],[(3,O' (List.replicate i (-1))),(700,N' t)]⟩,i<=t.length,t.length-i⟩
 |_=>none
def Xk:Fits Tryz.prog 86 ⟨[(0,0)],E8⟩:=by
 refine ffv (Γ:=ah [(137,⟨[],qI⟩),(136,⟨[(0,0)],qw 12⟩)]) (aq FW (aq (Xh 12) aN)) Tryz.func86 λds p h ξ=>?_
 unfold E8 at h;split at h<;>cases h
 rename_i t
 refine⟨aj,Nc t,(∃x0:Nat,x0<=t.length/\(0:Int)=(x0:Int)/\[]=List.replicate x0 (-1:Int)/\t=t)/\∀x1:Nat,x1<=t.length->ab (decide ((x1:Int)<(t.length:Int))) (au ((List.replicate x1 (-1:Int)).length+[(-1:Int)].length)/\ae ((x1:Int)+(1:Int))/\∃x2:Nat,x2<=t.length/\t.length-x2<t.length-x1/\(x1:Int)+(1:Int)=(x2:Int)/\List.replicate x1 (-1:Int)++[(-1:Int)]=List.replicate x2 (-1:Int)/\t=t) (ac (0:Int) ((List.replicate x1 (-1:Int)).length)/\(bX t=true/\True)/\((aB (List.set (List.replicate x1 (-1:Int)) (0:Nat) (0:Int))<(12:Nat)/\t.length<=(12:Nat)/\am t.length t/\AuOk t.length (aa t)/\(aa t).length<=(100:Nat)/\KOk t.length (aa t).length (List.set (List.replicate x1 (-1:Int)) (0:Nat) (0:Int))/\(∀(c:D7),c∈([]:D8)->am t.length c)/\([]:D8).length+(100:Nat) ^ aB (List.set (List.replicate x1 (-1:Int)) (0:Nat) (0:Int))<=(1099511627775:Nat))/\List.map List.length t=List.map List.length t/\True)/\bH t (aa t) (12:Nat) (List.set (List.replicate x1 (-1:Int)) (0:Nat) (0:Int)) ([]:D8)=aF t (aa t)/\t=t/\True),by kernel_rfl,?_⟩
 simp only[aO]at ξ⊢;obtain⟨h1,h2,h3,h4⟩:=ξ;obtain⟨q1,q2,q3⟩:=gH h1;have T:am t.length t:=⟨rfl,λx hx=>⟨(q3 x hx).1,λy hy=>by
  have:=(q3 x hx).2 y hy
  have e2:en t x y=(t.getD x []).getD y 0:=rfl
  omega⟩⟩
 refine⟨⟨0,by omega,rfl,rfl⟩,λi hi=>⟨λg=>⟨by omega,by omega,i+1,by omega,by omega,by omega,?_⟩,λg=>?_⟩⟩
 ·rw[C0]
 ·rw[show i=t.length by omega]
  have NG:=uY (n:=t.length) (by omega)
  have P:100 ^ aB ((List.replicate t.length (-1)).set 0 0)<=100 ^ 6:=Bv (by omega) (by omega)
  exact⟨by omega,h1,⟨by omega,by omega,T,h2,h3,Z0.ok oV h2,λc hc=>by simp at hc,by simp;omega⟩,rfl⟩
end Go.Sx
