/- CirM -/
import Derived.Test.YtcdmndagoafcgaaGreatNamD
import Derived.Test.YtcdmndagoafcgaaGreatGrp
open Go Go.Proofs
namespace Go.Sx
set_option linter.unusedSimpArgs false
set_option linter.unusedVariables false
def bI (n:Int):List (List (List Int)) :=
 ak n::((if n=4 then [bp (ak 2) (ak 2)] else if n=8 then [bp (ak 2) (ak 4),bp (ak 2) (bp (ak 2) (ak 2))] else []) ++
  ((if 6≤n∧n.tmod 2=0 then [cB (n.tdiv 2) 0] else [])++(if n=8 then [cB (n.tdiv 2) (n.tdiv 4)] else [])))
theorem nh {n:Int} (h:1≤n):((ak n).length:Int)=n:=by rw [ak,fK];omega
theorem rz {n:Int} (h:1≤n):ba (ak n).length (ak n):=by
 have e:=nh h
 refine ⟨rfl,fun x hx=>?_⟩
 have r:(ak n).getD x []=aq n.toNat (eg n x):=eZ _ _ _ (by omega)
 refine ⟨by rw [r,cf];omega,fun y hy=>?_⟩
 have v:en (ak n) x y=eg n x y:=by unfold en;rw [r,cr _ _ _ (by omega)]
 have a:=Int.tmod_nonneg (a:=(x:Int)+(y:Int)) n (by omega)
 have b:=Int.tmod_lt_of_pos ((x:Int)+(y:Int)) (b:=n) (by omega)
 rw [v,eg];omega
theorem xZ {t:List (List Int)} (h:aW t=true):ba t.length t:=by
 obtain ⟨_,_,q⟩:=bA h;exact ⟨rfl,fun x hx=>⟨(q x hx).1,fun y hy=>by
  have:=(q x hx).2 y hy
  have e2:en t x y=(t.getD x []).getD y 0:=rfl
  omega⟩⟩
def rA (n:Int):Post:=⟨1≤n∧n≤8,.c (.tr [22,57,2] (.r3 .i64 (bI n))),[]⟩
def rB:List AD→Option Post
 | [.c (.int .i64 (n))]=>some (rA n)
 | _=>none
def Gj (t:Nat):Bool:=[2000009,2000017,2000031,2000039,2000047,2000060,2000074,2000088].contains t
def Gk:List (Nat×Ctr):=[(206,⟨[],uz⟩),(207,⟨[],uB⟩),(208,⟨[],BO⟩)]
def ya (n:Int):Prop :=
 ac (n == (12:Int)) (False) ((ak n::([]:List (List (List Int)))++bp (ak (2:Int)) (ak (4:Int))::bp (ak (2:Int)) (bp (ak (2:Int)) (ak (2:Int)))::([]:List (List (List Int)))++cB (Int.tdiv n (2:Int)) (Int.tdiv n (4:Int))::([]:List (List (List Int)))=bI n)∧True)
def yb (n:Int):=(ae (FC.len (FC.r3 IntKind.i64 (ak n::([]:List (List (List Int)))++bp (ak (2:Int)) (ak (4:Int))::bp (ak (2:Int)) (bp (ak (2:Int)) (ak (2:Int)))::([]:List (List (List Int)))))+FC.len (FC.r3 IntKind.i64 (cB (Int.tdiv n (2:Int)) (Int.tdiv n (4:Int))::([]:List (List (List Int)))))))
def yc (n:Int):Prop :=
 ac (n == (8:Int)) ((((2:Int)≠(0:Int))∧(ab (Int.tdiv n (2:Int))))∧((((4:Int)≠(0:Int))∧(ab (Int.tdiv n (4:Int))))∧(((((1:Int)≤Int.tdiv n (2:Int))∧((Int.tdiv n (2:Int)≤(12:Int))∧(((0:Int)≤Int.tdiv n (4:Int))∧(Int.tdiv n (4:Int)≤(12:Int)))))∧True)∧((yb n)∧(ya n))))) (ac (n == (12:Int)) ((((2:Int)≠(0:Int))∧(ab (Int.tdiv n (2:Int))))∧((((4:Int)≠(0:Int))∧(ab (Int.tdiv n (4:Int))))∧(((((1:Int)≤Int.tdiv n (2:Int))∧((Int.tdiv n (2:Int)≤(12:Int))∧(((0:Int)≤Int.tdiv n (4:Int))∧(Int.tdiv n (4:Int)≤(12:Int)))))∧True)∧((yb n)∧(ya n))))) (ac (n == (12:Int)) (False) ((ak n::([]:List (List (List Int)))++bp (ak (2:Int)) (ak (4:Int))::bp (ak (2:Int)) (bp (ak (2:Int)) (ak (2:Int)))::([]:List (List (List Int)))=bI n)∧True)))
def yd (n:Int):Prop :=
 ac (n == (12:Int)) (False) ((ak n::([]:List (List (List Int)))++bp (ak (2:Int)) (ak (2:Int))::([]:List (List (List Int)))++cB (Int.tdiv n (2:Int)) (Int.tdiv n (4:Int))::([]:List (List (List Int)))=bI n)∧True)
def ye (n:Int):=(ae (FC.len (FC.r3 IntKind.i64 (ak n::([]:List (List (List Int)))++bp (ak (2:Int)) (ak (2:Int))::([]:List (List (List Int)))))+FC.len (FC.r3 IntKind.i64 (cB (Int.tdiv n (2:Int)) (Int.tdiv n (4:Int))::([]:List (List (List Int)))))))
def yf (n:Int):Prop :=
 ac (n == (8:Int)) ((((2:Int)≠(0:Int))∧(ab (Int.tdiv n (2:Int))))∧((((4:Int)≠(0:Int))∧(ab (Int.tdiv n (4:Int))))∧(((((1:Int)≤Int.tdiv n (2:Int))∧((Int.tdiv n (2:Int)≤(12:Int))∧(((0:Int)≤Int.tdiv n (4:Int))∧(Int.tdiv n (4:Int)≤(12:Int)))))∧True)∧((ye n)∧(yd n))))) (ac (n == (12:Int)) ((((2:Int)≠(0:Int))∧(ab (Int.tdiv n (2:Int))))∧((((4:Int)≠(0:Int))∧(ab (Int.tdiv n (4:Int))))∧(((((1:Int)≤Int.tdiv n (2:Int))∧((Int.tdiv n (2:Int)≤(12:Int))∧(((0:Int)≤Int.tdiv n (4:Int))∧(Int.tdiv n (4:Int)≤(12:Int)))))∧True)∧((ye n)∧(yd n))))) (ac (n == (12:Int)) (False) ((ak n::([]:List (List (List Int)))++bp (ak (2:Int)) (ak (2:Int))::([]:List (List (List Int)))=bI n)∧True)))
def yg (n:Int):Prop :=
 ac (n == (12:Int)) (False) ((ak n::([]:List (List (List Int)))++bp (ak (3:Int)) (ak (3:Int))::([]:List (List (List Int)))++cB (Int.tdiv n (2:Int)) (Int.tdiv n (4:Int))::([]:List (List (List Int)))=bI n)∧True)
def yh (n:Int):=(ae (FC.len (FC.r3 IntKind.i64 (ak n::([]:List (List (List Int)))++bp (ak (3:Int)) (ak (3:Int))::([]:List (List (List Int)))))+FC.len (FC.r3 IntKind.i64 (cB (Int.tdiv n (2:Int)) (Int.tdiv n (4:Int))::([]:List (List (List Int)))))))
def yi (n:Int):Prop :=
 ac (n == (8:Int)) ((((2:Int)≠(0:Int))∧(ab (Int.tdiv n (2:Int))))∧((((4:Int)≠(0:Int))∧(ab (Int.tdiv n (4:Int))))∧(((((1:Int)≤Int.tdiv n (2:Int))∧((Int.tdiv n (2:Int)≤(12:Int))∧(((0:Int)≤Int.tdiv n (4:Int))∧(Int.tdiv n (4:Int)≤(12:Int)))))∧True)∧((yh n)∧(yg n))))) (ac (n == (12:Int)) ((((2:Int)≠(0:Int))∧(ab (Int.tdiv n (2:Int))))∧((((4:Int)≠(0:Int))∧(ab (Int.tdiv n (4:Int))))∧(((((1:Int)≤Int.tdiv n (2:Int))∧((Int.tdiv n (2:Int)≤(12:Int))∧(((0:Int)≤Int.tdiv n (4:Int))∧(Int.tdiv n (4:Int)≤(12:Int)))))∧True)∧((yh n)∧(yg n))))) (ac (n == (12:Int)) (False) ((ak n::([]:List (List (List Int)))++bp (ak (3:Int)) (ak (3:Int))::([]:List (List (List Int)))=bI n)∧True)))
def yj (n:Int):Prop :=
 ac (n == (12:Int)) (False) ((ak n::([]:List (List (List Int)))++bp (ak (2:Int)) (ak (6:Int))::([]:List (List (List Int)))++cB (Int.tdiv n (2:Int)) (Int.tdiv n (4:Int))::([]:List (List (List Int)))=bI n)∧True)
def yk (n:Int):=(ae (FC.len (FC.r3 IntKind.i64 (ak n::([]:List (List (List Int)))++bp (ak (2:Int)) (ak (6:Int))::([]:List (List (List Int)))))+FC.len (FC.r3 IntKind.i64 (cB (Int.tdiv n (2:Int)) (Int.tdiv n (4:Int))::([]:List (List (List Int)))))))
def yl (n:Int):Prop :=
 ac (n == (8:Int)) ((((2:Int)≠(0:Int))∧(ab (Int.tdiv n (2:Int))))∧((((4:Int)≠(0:Int))∧(ab (Int.tdiv n (4:Int))))∧(((((1:Int)≤Int.tdiv n (2:Int))∧((Int.tdiv n (2:Int)≤(12:Int))∧(((0:Int)≤Int.tdiv n (4:Int))∧(Int.tdiv n (4:Int)≤(12:Int)))))∧True)∧((yk n)∧(yj n))))) (ac (n == (12:Int)) ((((2:Int)≠(0:Int))∧(ab (Int.tdiv n (2:Int))))∧((((4:Int)≠(0:Int))∧(ab (Int.tdiv n (4:Int))))∧(((((1:Int)≤Int.tdiv n (2:Int))∧((Int.tdiv n (2:Int)≤(12:Int))∧(((0:Int)≤Int.tdiv n (4:Int))∧(Int.tdiv n (4:Int)≤(12:Int)))))∧True)∧((yk n)∧(yj n))))) (ac (n == (12:Int)) (False) ((ak n::([]:List (List (List Int)))++bp (ak (2:Int)) (ak (6:Int))::([]:List (List (List Int)))=bI n)∧True)))
def ym (n:Int):=(ae (FC.len (FC.r3 IntKind.i64 (ak n::([]:List (List (List Int)))))+FC.len (FC.r3 IntKind.i64 (cB (Int.tdiv n (2:Int)) (Int.tdiv n (4:Int))::([]:List (List (List Int)))))))
def yn (n:Int):Prop :=
 ac (n == (8:Int)) ((((2:Int)≠(0:Int))∧(ab (Int.tdiv n (2:Int))))∧((((4:Int)≠(0:Int))∧(ab (Int.tdiv n (4:Int))))∧(((((1:Int)≤Int.tdiv n (2:Int))∧((Int.tdiv n (2:Int)≤(12:Int))∧(((0:Int)≤Int.tdiv n (4:Int))∧(Int.tdiv n (4:Int)≤(12:Int)))))∧True)∧((ym n)∧(ac (n == (12:Int)) (False) ((ak n::([]:List (List (List Int)))++cB (Int.tdiv n (2:Int)) (Int.tdiv n (4:Int))::([]:List (List (List Int)))=bI n)∧True)))))) (ac (n == (12:Int)) ((((2:Int)≠(0:Int))∧(ab (Int.tdiv n (2:Int))))∧((((4:Int)≠(0:Int))∧(ab (Int.tdiv n (4:Int))))∧(((((1:Int)≤Int.tdiv n (2:Int))∧((Int.tdiv n (2:Int)≤(12:Int))∧(((0:Int)≤Int.tdiv n (4:Int))∧(Int.tdiv n (4:Int)≤(12:Int)))))∧True)∧((ym n)∧(ac (n == (12:Int)) (False) ((ak n::([]:List (List (List Int)))++cB (Int.tdiv n (2:Int)) (Int.tdiv n (4:Int))::([]:List (List (List Int)))=bI n)∧True)))))) (ac (n == (12:Int)) (False) ((ak n::([]:List (List (List Int)))=bI n)∧True)))
def yq (n:Int):Prop :=
 ac (n == (12:Int)) (False) ((ak n::([]:List (List (List Int)))++bp (ak (2:Int)) (ak (4:Int))::bp (ak (2:Int)) (bp (ak (2:Int)) (ak (2:Int)))::([]:List (List (List Int)))++cB (Int.tdiv n (2:Int)) (0:Int)::([]:List (List (List Int)))++cB (Int.tdiv n (2:Int)) (Int.tdiv n (4:Int))::([]:List (List (List Int)))=bI n)∧True)
def yr (n:Int):Prop :=
 ac (n == (12:Int)) (False) ((ak n::([]:List (List (List Int)))++bp (ak (2:Int)) (ak (2:Int))::([]:List (List (List Int)))++cB (Int.tdiv n (2:Int)) (0:Int)::([]:List (List (List Int)))++cB (Int.tdiv n (2:Int)) (Int.tdiv n (4:Int))::([]:List (List (List Int)))=bI n)∧True)
def yt (n:Int):Prop :=
 ac (n == (12:Int)) (False) ((ak n::([]:List (List (List Int)))++bp (ak (3:Int)) (ak (3:Int))::([]:List (List (List Int)))++cB (Int.tdiv n (2:Int)) (0:Int)::([]:List (List (List Int)))++cB (Int.tdiv n (2:Int)) (Int.tdiv n (4:Int))::([]:List (List (List Int)))=bI n)∧True)
def yu (n:Int):Prop :=
 ac (n == (12:Int)) (False) ((ak n::([]:List (List (List Int)))++bp (ak (2:Int)) (ak (6:Int))::([]:List (List (List Int)))++cB (Int.tdiv n (2:Int)) (0:Int)::([]:List (List (List Int)))++cB (Int.tdiv n (2:Int)) (Int.tdiv n (4:Int))::([]:List (List (List Int)))=bI n)∧True)
def yv (n:Int):Prop :=
 ac (n == (12:Int)) (False) ((ak n::([]:List (List (List Int)))++cB (Int.tdiv n (2:Int)) (0:Int)::([]:List (List (List Int)))++cB (Int.tdiv n (2:Int)) (Int.tdiv n (4:Int))::([]:List (List (List Int)))=bI n)∧True)
def lM (n:Int):=(FC.r3 IntKind.i64 (cB (Int.tdiv n (2:Int)) (Int.tdiv n (4:Int))::([]:List (List (List Int)))))
def ni (n:Int):=(FC.r3 IntKind.i64 (cB (Int.tdiv n (2:Int)) (0:Int)::([]:List (List (List Int)))))
def yw (n:Int):=(ae (FC.len (FC.r3 IntKind.i64 (ak n::([]:List (List (List Int)))++bp (ak (2:Int)) (ak (4:Int))::bp (ak (2:Int)) (bp (ak (2:Int)) (ak (2:Int)))::([]:List (List (List Int)))++cB (Int.tdiv n (2:Int)) (0:Int)::([]:List (List (List Int)))))+FC.len (lM n)))
def yx (n:Int):=(ae (FC.len (FC.r3 IntKind.i64 (ak n::([]:List (List (List Int)))++bp (ak (2:Int)) (ak (2:Int))::([]:List (List (List Int)))++cB (Int.tdiv n (2:Int)) (0:Int)::([]:List (List (List Int)))))+FC.len (lM n)))
def yy (n:Int):=(ae (FC.len (FC.r3 IntKind.i64 (ak n::([]:List (List (List Int)))++bp (ak (3:Int)) (ak (3:Int))::([]:List (List (List Int)))++cB (Int.tdiv n (2:Int)) (0:Int)::([]:List (List (List Int)))))+FC.len (lM n)))
def yz (n:Int):=(ae (FC.len (FC.r3 IntKind.i64 (ak n::([]:List (List (List Int)))++bp (ak (2:Int)) (ak (6:Int))::([]:List (List (List Int)))++cB (Int.tdiv n (2:Int)) (0:Int)::([]:List (List (List Int)))))+FC.len (lM n)))
def kR:=(ba ((ak (2:Int)).length) (ak (2:Int)))
def nj (n:Int):=(FC.r3 IntKind.i64 (ak n::([]:List (List (List Int)))))
def yA (n:Int):Prop :=
 (((((1:Int)≤n)∧(n≤(12:Int)))∧True)∧(ac (n == (4:Int)) (((((1:Int)≤(2:Int))∧((2:Int)≤(12:Int)))∧True)∧(((((1:Int)≤(2:Int))∧((2:Int)≤(12:Int)))∧True)∧((((kR)∧((kR)∧(((1:Nat)≤(ak (2:Int)).length)∧(((ak (2:Int)).length≤(144:Nat))∧((ak (2:Int)).length≤(144:Nat))))))∧True)∧((ae (FC.len (nj n)+FC.len (FC.r3 IntKind.i64 (bp (ak (2:Int)) (ak (2:Int))::([]:List (List (List Int)))))))∧(ac (decide ((6:Int)≤n)) (((2:Int)≠(0:Int))∧(ac (Int.tmod n (2:Int) == (0:Int)) ((((2:Int)≠(0:Int))∧(ab (Int.tdiv n (2:Int))))∧(((((1:Int)≤Int.tdiv n (2:Int))∧((Int.tdiv n (2:Int)≤(12:Int))∧(((0:Int)≤(0:Int))∧((0:Int)≤(12:Int)))))∧True)∧((ae (FC.len (FC.r3 IntKind.i64 (ak n::([]:List (List (List Int)))++bp (ak (2:Int)) (ak (2:Int))::([]:List (List (List Int)))))+FC.len (ni n)))∧(ac (n == (8:Int)) ((((2:Int)≠(0:Int))∧(ab (Int.tdiv n (2:Int))))∧((((4:Int)≠(0:Int))∧(ab (Int.tdiv n (4:Int))))∧(((((1:Int)≤Int.tdiv n (2:Int))∧((Int.tdiv n (2:Int)≤(12:Int))∧(((0:Int)≤Int.tdiv n (4:Int))∧(Int.tdiv n (4:Int)≤(12:Int)))))∧True)∧((yx n)∧(yr n))))) (ac (n == (12:Int)) ((((2:Int)≠(0:Int))∧(ab (Int.tdiv n (2:Int))))∧((((4:Int)≠(0:Int))∧(ab (Int.tdiv n (4:Int))))∧(((((1:Int)≤Int.tdiv n (2:Int))∧((Int.tdiv n (2:Int)≤(12:Int))∧(((0:Int)≤Int.tdiv n (4:Int))∧(Int.tdiv n (4:Int)≤(12:Int)))))∧True)∧((yx n)∧(yr n))))) (ac (n == (12:Int)) (False)
 ((ak n::([]:List (List (List Int)))++bp (ak (2:Int)) (ak (2:Int))::([]:List (List (List Int)))++cB (Int.tdiv n (2:Int)) (0:Int)::([]:List (List (List Int)))=bI n)∧True))))))) (yf n))) (yf n)))))) (ac (n == (8:Int)) (((((1:Int)≤(2:Int))∧((2:Int)≤(12:Int)))∧True)∧(((((1:Int)≤(2:Int))∧((2:Int)≤(12:Int)))∧True)∧((((kR)∧((kR)∧(((1:Nat)≤(ak (2:Int)).length)∧(((ak (2:Int)).length≤(144:Nat))∧((ak (2:Int)).length≤(144:Nat))))))∧True)∧(((((1:Int)≤(2:Int))∧((2:Int)≤(12:Int)))∧True)∧(((((1:Int)≤(4:Int))∧((4:Int)≤(12:Int)))∧True)∧((((kR)∧((ba ((ak (4:Int)).length) (ak (4:Int)))∧(((1:Nat)≤(ak (4:Int)).length)∧(((ak (2:Int)).length≤(144:Nat))∧((ak (4:Int)).length≤(144:Nat))))))∧True)∧(((((1:Int)≤(2:Int))∧((2:Int)≤(12:Int)))∧True)∧((((kR)∧((ba ((bp (ak (2:Int)) (ak (2:Int))).length) (bp (ak (2:Int)) (ak (2:Int))))∧(((1:Nat)≤(bp (ak (2:Int)) (ak (2:Int))).length)∧(((ak (2:Int)).length≤(144:Nat))∧((bp (ak (2:Int)) (ak (2:Int))).length≤(144:Nat))))))∧True)∧((ae (FC.len (nj n)+FC.len (FC.r3 IntKind.i64 (bp (ak (2:Int)) (ak (4:Int))::bp (ak (2:Int)) (bp (ak (2:Int)) (ak (2:Int)))::([]:List (List (List Int)))))))∧(ac (decide ((6:Int)≤n)) (((2:Int)≠(0:Int))∧(ac (Int.tmod n (2:Int) == (0:Int)) ((((2:Int)≠(0:Int))∧(ab (Int.tdiv n (2:Int))))∧(((((1:Int)≤Int.tdiv n (2:Int))∧((Int.tdiv n (2:Int)≤(12:Int)) ∧
 (((0:Int)≤(0:Int))∧((0:Int)≤(12:Int)))))∧True)∧((ae (FC.len (FC.r3 IntKind.i64 (ak n::([]:List (List (List Int)))++bp (ak (2:Int)) (ak (4:Int))::bp (ak (2:Int)) (bp (ak (2:Int)) (ak (2:Int)))::([]:List (List (List Int)))))+FC.len (ni n)))∧(ac (n == (8:Int)) ((((2:Int)≠(0:Int))∧(ab (Int.tdiv n (2:Int))))∧((((4:Int)≠(0:Int))∧(ab (Int.tdiv n (4:Int))))∧(((((1:Int)≤Int.tdiv n (2:Int))∧((Int.tdiv n (2:Int)≤(12:Int))∧(((0:Int)≤Int.tdiv n (4:Int))∧(Int.tdiv n (4:Int)≤(12:Int)))))∧True)∧((yw n)∧(yq n))))) (ac (n == (12:Int)) ((((2:Int)≠(0:Int))∧(ab (Int.tdiv n (2:Int))))∧((((4:Int)≠(0:Int))∧(ab (Int.tdiv n (4:Int))))∧(((((1:Int)≤Int.tdiv n (2:Int))∧((Int.tdiv n (2:Int)≤(12:Int))∧(((0:Int)≤Int.tdiv n (4:Int))∧(Int.tdiv n (4:Int)≤(12:Int)))))∧True)∧((yw n)∧(yq n))))) (ac (n == (12:Int)) (False) ((ak n::([]:List (List (List Int)))++bp (ak (2:Int)) (ak (4:Int))::bp (ak (2:Int)) (bp (ak (2:Int)) (ak (2:Int)))::([]:List (List (List Int)))++cB (Int.tdiv n (2:Int)) (0:Int)::([]:List (List (List Int)))=bI n)∧True))))))) (yc n))) (yc n))))))))))) (ac (n == (9:Int)) (((((1:Int)≤(3:Int))∧((3:Int)≤(12:Int)))∧True)∧(((((1:Int)≤(3:Int))∧((3:Int)≤(12:Int)))∧True)∧((((ba ((ak (3:Int)).length) (ak (3:Int)))∧((ba ((ak (3:Int)).length) (ak (3:Int)))∧(((1:Nat)≤(ak (3:Int)).length)∧(((ak (3:Int)).length≤(144:Nat)) ∧
 ((ak (3:Int)).length≤(144:Nat))))))∧True)∧((ae (FC.len (nj n)+FC.len (FC.r3 IntKind.i64 (bp (ak (3:Int)) (ak (3:Int))::([]:List (List (List Int)))))))∧(ac (decide ((6:Int)≤n)) (((2:Int)≠(0:Int))∧(ac (Int.tmod n (2:Int) == (0:Int)) ((((2:Int)≠(0:Int))∧(ab (Int.tdiv n (2:Int))))∧(((((1:Int)≤Int.tdiv n (2:Int))∧((Int.tdiv n (2:Int)≤(12:Int))∧(((0:Int)≤(0:Int))∧((0:Int)≤(12:Int)))))∧True)∧((ae (FC.len (FC.r3 IntKind.i64 (ak n::([]:List (List (List Int)))++bp (ak (3:Int)) (ak (3:Int))::([]:List (List (List Int)))))+FC.len (ni n)))∧(ac (n == (8:Int)) ((((2:Int)≠(0:Int))∧(ab (Int.tdiv n (2:Int))))∧((((4:Int)≠(0:Int))∧(ab (Int.tdiv n (4:Int))))∧(((((1:Int)≤Int.tdiv n (2:Int))∧((Int.tdiv n (2:Int)≤(12:Int))∧(((0:Int)≤Int.tdiv n (4:Int))∧(Int.tdiv n (4:Int)≤(12:Int)))))∧True)∧((yy n)∧(yt n))))) (ac (n == (12:Int)) ((((2:Int)≠(0:Int))∧(ab (Int.tdiv n (2:Int))))∧((((4:Int)≠(0:Int))∧(ab (Int.tdiv n (4:Int))))∧(((((1:Int)≤Int.tdiv n (2:Int))∧((Int.tdiv n (2:Int)≤(12:Int))∧(((0:Int)≤Int.tdiv n (4:Int))∧(Int.tdiv n (4:Int)≤(12:Int)))))∧True)∧((yy n)∧(yt n))))) (ac (n == (12:Int)) (False) ((ak n::([]:List (List (List Int)))++bp (ak (3:Int)) (ak (3:Int))::([]:List (List (List Int)))++cB (Int.tdiv n (2:Int)) (0:Int)::([]:List (List (List Int)))=bI n)∧True))))))) (yi n))) (yi n)))))) (ac (n == (12:Int))
 (((((1:Int)≤(2:Int))∧((2:Int)≤(12:Int)))∧True)∧(((((1:Int)≤(6:Int))∧((6:Int)≤(12:Int)))∧True)∧((((kR)∧((ba ((ak (6:Int)).length) (ak (6:Int)))∧(((1:Nat)≤(ak (6:Int)).length)∧(((ak (2:Int)).length≤(144:Nat))∧((ak (6:Int)).length≤(144:Nat))))))∧True)∧((ae (FC.len (nj n)+FC.len (FC.r3 IntKind.i64 (bp (ak (2:Int)) (ak (6:Int))::([]:List (List (List Int)))))))∧(ac (decide ((6:Int)≤n)) (((2:Int)≠(0:Int))∧(ac (Int.tmod n (2:Int) == (0:Int)) ((((2:Int)≠(0:Int))∧(ab (Int.tdiv n (2:Int))))∧(((((1:Int)≤Int.tdiv n (2:Int))∧((Int.tdiv n (2:Int)≤(12:Int))∧(((0:Int)≤(0:Int))∧((0:Int)≤(12:Int)))))∧True)∧((ae (FC.len (FC.r3 IntKind.i64 (ak n::([]:List (List (List Int)))++bp (ak (2:Int)) (ak (6:Int))::([]:List (List (List Int)))))+FC.len (ni n)))∧(ac (n == (8:Int)) ((((2:Int)≠(0:Int))∧(ab (Int.tdiv n (2:Int))))∧((((4:Int)≠(0:Int))∧(ab (Int.tdiv n (4:Int))))∧(((((1:Int)≤Int.tdiv n (2:Int))∧((Int.tdiv n (2:Int)≤(12:Int))∧(((0:Int)≤Int.tdiv n (4:Int))∧(Int.tdiv n (4:Int)≤(12:Int)))))∧True)∧((yz n)∧(yu n))))) (ac (n == (12:Int)) ((((2:Int)≠(0:Int))∧(ab (Int.tdiv n (2:Int))))∧((((4:Int)≠(0:Int))∧(ab (Int.tdiv n (4:Int))))∧(((((1:Int)≤Int.tdiv n (2:Int))∧((Int.tdiv n (2:Int)≤(12:Int))∧(((0:Int)≤Int.tdiv n (4:Int))∧(Int.tdiv n (4:Int)≤(12:Int)))))∧True)∧((yz n)∧(yu n))))) (ac (n == (12:Int)) (False)
 ((ak n::([]:List (List (List Int)))++bp (ak (2:Int)) (ak (6:Int))::([]:List (List (List Int)))++cB (Int.tdiv n (2:Int)) (0:Int)::([]:List (List (List Int)))=bI n)∧True))))))) (yl n))) (yl n)))))) (ac (decide ((6:Int)≤n)) (((2:Int)≠(0:Int))∧(ac (Int.tmod n (2:Int) == (0:Int)) ((((2:Int)≠(0:Int))∧(ab (Int.tdiv n (2:Int))))∧(((((1:Int)≤Int.tdiv n (2:Int))∧((Int.tdiv n (2:Int)≤(12:Int))∧(((0:Int)≤(0:Int))∧((0:Int)≤(12:Int)))))∧True)∧((ae (FC.len (nj n)+FC.len (ni n)))∧(ac (n == (8:Int)) ((((2:Int)≠(0:Int))∧(ab (Int.tdiv n (2:Int))))∧((((4:Int)≠(0:Int))∧(ab (Int.tdiv n (4:Int))))∧(((((1:Int)≤Int.tdiv n (2:Int))∧((Int.tdiv n (2:Int)≤(12:Int))∧(((0:Int)≤Int.tdiv n (4:Int))∧(Int.tdiv n (4:Int)≤(12:Int)))))∧True)∧((ae (FC.len (FC.r3 IntKind.i64 (ak n::([]:List (List (List Int)))++cB (Int.tdiv n (2:Int)) (0:Int)::([]:List (List (List Int)))))+FC.len (lM n)))∧(yv n))))) (ac (n == (12:Int)) ((((2:Int)≠(0:Int))∧(ab (Int.tdiv n (2:Int))))∧((((4:Int)≠(0:Int))∧(ab (Int.tdiv n (4:Int))))∧(((((1:Int)≤Int.tdiv n (2:Int))∧((Int.tdiv n (2:Int)≤(12:Int))∧(((0:Int)≤Int.tdiv n (4:Int))∧(Int.tdiv n (4:Int)≤(12:Int)))))∧True)∧((ae (FC.len (FC.r3 IntKind.i64 (ak n::([]:List (List (List Int)))++cB (Int.tdiv n (2:Int)) (0:Int)::([]:List (List (List Int)))))+FC.len (lM n)))∧(yv n))))) (ac (n == (12:Int)) (False)
 ((ak n::([]:List (List (List Int)))++cB (Int.tdiv n (2:Int)) (0:Int)::([]:List (List (List Int)))=bI n)∧True))))))) (yn n))) (yn n)))))))
theorem NY (n:Int):aC Tryz.prog (af Gk) Gj am Tryz.f166 (aE Tryz.f166) [] [.c (.int .i64 (n))] (rA n)=yA n:=by kernel_rfl
theorem NZ (n:Int) (Yh:(rA n).pre):yA n:=by
 simp only [rA,yA,yv,yu,yt,yr,yq,yn,yj,yl,yg,yi,yd,yf,ya,yc,yb,ye,yh,yk,ym,lM,ni,yw,yx,yy,yz,kR,nj,aG,u1,u2,u3,u4,u5,u6,u7,u8,u9,v1,v2,v3,v4,v5,v6,v7,v8,v9,w1,w2,w3,w4,aH,aa,ab,ae,ar] at Yh ⊢;obtain ⟨h1,h2⟩:=Yh;have l2:(ak 2).length=2:=by have:=nh (n:=2) (by omega);omega
 have l4:(ak 4).length=4:=by have:=nh (n:=4) (by omega);omega
 have t2:=rz (n:=2) (by omega)
 have t4:=rz (n:=4) (by omega)
 have l22:(bp (ak 2) (ak 2)).length=4:=by rw [bp,fK,l2]
 have t22:ba 4 (bp (ak 2) (ak 2)):=by
  have:=xZ (t:=bp (ak 2) (ak 2)) (by decide +kernel)
  rw [l22] at this;exact this
 rw [l2] at t2;rw [l4] at t4;have:n=1∨n=2∨n=3∨n=4∨n=5∨n=6∨n=7∨n=8:=by omega
 rcases this with rfl | rfl | rfl | rfl | rfl | rfl | rfl | rfl <;> simp [l2,t2,l4,t4,l22,t22,bI,FC.len]
theorem Gl:Fits Tryz.prog 166 ⟨[],rB⟩:=by
 refine aJ (Γ:=af Gk) (aj Jz (aj JE (aj Te aF))) Tryz.func166 fun ds p h hp=>?_
 unfold rB at h;split at h
 ·cases h
  exact ⟨Gj,am,by rw [NY];exact NZ _  hp⟩
 ·cases h
theorem N0 {n:Int} (h1:1≤n) (h2:n≤7):∀t∈bI n,(t.length:Int)=n∧aW t=true∧(fe t.length [t] [t]).length≤100:=by
 have:n=1∨n=2∨n=3∨n=4∨n=5∨n=6∨n=7:=by omega
 rcases this with rfl | rfl | rfl | rfl | rfl | rfl | rfl <;> decide +kernel
theorem N1 {n:Int} (h1:1≤n) (h2:n≤8):∀t∈bI n,(t.length:Int)=n∧aW t=true:=by
 have:n=1∨n=2∨n=3∨n=4∨n=5∨n=6∨n=7∨n=8:=by omega
 rcases this with rfl | rfl | rfl | rfl | rfl | rfl | rfl | rfl <;> decide +kernel
theorem N2 {n:Int} (h1:1≤n) (h2:n≤7) {t:List (List Int)} (ht:t∈bI n):(t.length:Int)=n∧aW t=true∧ba t.length t∧AuOk t.length (cF t)∧(cF t).length≤100∧iW (cF t) 0 0=0:=by
 obtain ⟨a,b,c⟩:=N0 h1 h2 t ht;have T:=xZ b
 have E:cF t=(fe t.length [t] [t]).take 1000000:=by
  rw [cF,g4,if_pos rfl];exact IL (n:=t.length) (zk T) rfl (by omega) (by omega)
 have L:(cF t).length≤100:=by rw [E,List.length_take];omega
 obtain ⟨x,y⟩:=Pg T (by omega) (by omega)
 exact ⟨a,b,T,x,L,y⟩
theorem N3 {n:Int} (h1:1≤n) (h2:n≤8) {t:List (List Int)} (ht:t∈bI n):(t.length:Int)=n∧aW t=true∧ba t.length t:=by
 obtain ⟨a,b⟩:=N1 h1 h2 t ht;exact ⟨a,b,xZ b⟩
def nk (d:Nat) (t:List (List Int)) (A:List (List Int)) (K:List Int) (out:List (List (List Int))):Post:=⟨aM K<d∧t.length≤12∧ba t.length t∧AuOk t.length A∧A.length≤100∧KOk t.length A.length K∧(∀c,c∈out→ba t.length c)∧out.length+100 ^ aM K≤1099511627775,.c (.ro (.r3 .i64 ((cO t A d K out)))),[.rows 57 2 .i64 (t)]⟩
def oO (d:Nat):List AD→Option Post
 | [.c (.rows .i64 (t)),.c (.rows .i64 (A)),.c (.ints .i64 (K)),.c (.r3 .i64 (out))]=>some (nk d t A K out)
 | _=>none
def Gm (d:Nat) (t:List (List Int)) (A:List (List Int)) (K:List Int) (out:List (List (List Int))):Nat→Option Ann
 | 0=>some (Ann.mk ((Nat)) (fun x=>⟨[(0,.c (.own (700))),(1,.c (.ro (.rows .i64 (A)))),(2,.c (.ro (.ints .i64 (K)))),(3,.c (.ro (.r3 .i64 (out)))),(9,.c (.int .i64 ((x:Int))))],[(700,some (.rows 0 57 2 .i64 (t)))]⟩) (fun x=>x≤K.length∧(∀j,j<x→0≤K.getD j 0)) (fun x=>K.length - x) (fun _=>am))
 | 1004=>some (Ann.mk ((Unit)) (fun u=>⟨[(0,.c (.own (700))),(1,.c (.ro (.rows .i64 (A)))),(2,.c (.ro (.ints .i64 (K)))),(3,.c (.ro (.r3 .i64 (out)))),(9,.c (.int .i64 ((bf K:Int))))],[(700,some (.rows 0 57 2 .i64 (t)))]⟩) (fun u=>True) (fun u=>0) (fun u=>fun b_=>match b_ with | 2=>some (Ann.mk ((Nat)) (fun y=>⟨[(0,.c (.own (700))),(1,.c (.ro (.rows .i64 (A)))),(2,.c (.ro (.ints .i64 (K)))),(3,.c (.ro (.r3 .i64 (out)))),(9,.c (.int .i64 ((bf K:Int)))),(10,.c (.own (10))),(11,.c (.int .i64 ((y:Int))))],[(10,some (.rows 0 57 2 .i64 ((List.range y).map fun y=>bU (A.getD (K.getD y 0).toNat []) (t.getD y [])))),(700,some (.rows 0 57 2 .i64 (t)))]⟩) (fun y=>y≤t.length∧bf K=K.length) (fun y=>t.length - y) (fun _=>am)) | 4=>some (Ann.mk ((Nat)) (fun j=>⟨[(0,.c (.own (700))),(1,.c (.ro (.rows .i64 (A)))),(2,.c (.ro (.ints .i64 (K)))),(3,.c (.ro (.r3 .i64 (out)))),(9,.c (.int .i64 ((bf K:Int)))),(10,.c (.ro (.rows .i64 (bX t A K)))),(12,.c (.int .i64 ((j:Int))))],[(700,some (.rows 0 57 2 .i64 (t)))]⟩) (fun j=>j≤out.length∧bf K=K.length∧(∀j1,j1<j→dg (out.getD j1 []) (bX t A K)=true)) (fun j=>out.length - j) (fun _=>am)) | 1013=>some (Ann.mk ((Unit)) (fun u=>⟨[(0,.c (.own (700))),(3,.c (.ro (.r3 .i64 (out)))),(10,.c (.ro (.rows .i64 (bX t A K)))),(12,.c (.int .i64 ((ep (bX t A K) out:Int))))],[(700,some (.rows 0 57 2 .i64 (t)))]⟩) (fun u=>bf K=K.length) (fun u=>0) (fun _=>am)) | 6=>some (Ann.mk ((Nat)) (fun i=>⟨[(0,.c (.own (700))),(1,.c (.ro (.rows .i64 (A)))),(2,.c (.ro (.ints .i64 (K)))),(3,.c (.ro (.r3 .i64 (dV (dp t A (cO t A (d - 1)) K) out i)))),(9,.c (.int .i64 ((bf K:Int)))),(14,.c (.int .i64 ((i:Int))))],[(700,some (.rows 0 57 2 .i64 (t)))]⟩) (fun i=>i≤A.length∧bf K≠K.length) (fun i=>A.length - i) (fun _=>am)) | _=>none))
 | _=>none
def Gn (d:Nat):List (Nat×Ctr):=[(226,⟨[],rL⟩),(181,⟨[],zg⟩),(183,⟨[],nQ⟩),(227,⟨[],xX⟩),(175,⟨[(0,0)],oO d⟩)]
def yB (d:Nat) (t:List (List Int)) (A:List (List Int)) (K:List Int) (out:List (List (List Int))):Prop :=
 (((∃x0:Nat,(((x0≤K.length)∧(∀(j:Nat),j<x0→(0:Int)≤K.getD j (0:Int)))∧((A=A)∧((K=K)∧((out=out)∧(((0:Int)=(↑x0:Int))∧(t=t)))))))∧(∀x1:Nat,(((x1≤K.length)∧(∀(j:Nat),j<x1→(0:Int)≤K.getD j (0:Int)))→(ac (decide ((↑x1:Int)<(↑(K.length):Int))) ((aa (↑x1:Int) (K.length))∧(ac (decide ((0:Int)≤K.getD ((↑x1:Int).toNat) (0:Int))) ((ab ((↑x1:Int)+(1:Int)))∧(∃x2:Nat,(((x2≤K.length)∧(∀(j:Nat),j<x2→(0:Int)≤K.getD j (0:Int)))∧((K.length - x2<K.length - x1)∧((A=A)∧((K=K)∧((out=out)∧(((↑x1:Int)+(1:Int)=(↑x2:Int))∧(t=t))))))))) (∃x3:Unit,(True∧((A=A)∧((K=K)∧((out=out)∧(((↑x1:Int)=(↑(bf K):Int))∧(t=t))))))))) (∃x4:Unit,(True∧((A=A)∧((K=K)∧((out=out)∧(((↑x1:Int)=(↑(bf K):Int))∧(t=t)))))))))))∧(∀x5:Unit,(True→(ac ((↑(bf K):Int) == (↑(K.length):Int)) ((∃x6:Nat,(((x6≤t.length)∧(bf K=K.length))∧((A=A)∧((K=K)∧((out=out)∧(((↑(bf K):Int)=(↑(bf K):Int))∧(((0:Int)=(↑x6:Int))∧((([]:List (List Int))=List.map (fun (y:Nat)=>bU (A.getD ((K.getD y (0:Int)).toNat) []) (t.getD y [])) (List.range x6))∧(t=t)))))))))∧(∀x7:Nat,(((x7≤t.length)∧(bf K=K.length))→(ac (decide ((↑x7:Int)<(↑(t.length):Int))) ((aa (↑x7:Int) (K.length))∧((aa (K.getD ((↑x7:Int).toNat) (0:Int)) (A.length))∧((aa (↑x7:Int) (t.length))∧((((ae ((A.getD ((K.getD ((↑x7:Int).toNat) (0:Int)).toNat) []).length)) ∧
 (lO ((t.getD ((↑x7:Int).toNat) []).length) (A.getD ((K.getD ((↑x7:Int).toNat) (0:Int)).toNat) [])))∧True)∧((ae ((List.map (fun (y:Nat)=>bU (A.getD ((K.getD y (0:Int)).toNat) []) (t.getD y [])) (List.range x7)).length+(bU (A.getD ((K.getD ((↑x7:Int).toNat) (0:Int)).toNat) []) (t.getD ((↑x7:Int).toNat) [])::([]:List (List Int))).length))∧((ab ((↑x7:Int)+(1:Int)))∧(∃x8:Nat,(((x8≤t.length)∧(bf K=K.length))∧((t.length - x8<t.length - x7)∧((A=A)∧((K=K)∧((out=out)∧(((↑(bf K):Int)=(↑(bf K):Int))∧(((↑x7:Int)+(1:Int)=(↑x8:Int))∧((List.map (fun (y:Nat)=>bU (A.getD ((K.getD y (0:Int)).toNat) []) (t.getD y [])) (List.range x7)++bU (A.getD ((K.getD ((↑x7:Int).toNat) (0:Int)).toNat) []) (t.getD ((↑x7:Int).toNat) [])::([]:List (List Int))=List.map (fun (y:Nat)=>bU (A.getD ((K.getD y (0:Int)).toNat) []) (t.getD y [])) (List.range x8))∧(t=t)))))))))))))))) (((∃x9:Nat,(((x9≤out.length)∧((bf K=K.length)∧(∀(j1:Nat),j1<x9→dg (out.getD j1 ([]:List (List Int))) (bX t A K)=true)))∧((A=A)∧((K=K)∧((out=out)∧(((↑(bf K):Int)=(↑(bf K):Int))∧((List.map (fun (y:Nat)=>bU (A.getD ((K.getD y (0:Int)).toNat) []) (t.getD y [])) (List.range x7)=bX t A K)∧(((0:Int)=(↑x9:Int))∧(t=t)))))))))∧(∀x10:Nat,(((x10≤out.length)∧((bf K=K.length)∧(∀(j1:Nat),j1<x10→dg (out.getD j1 ([]:List (List Int))) (bX t A K)=true)))→(ac (decide ((↑x10:Int)<(↑(out.length):Int)))
 ((aa (↑x10:Int) (out.length))∧((((au (out.getD ((↑x10:Int).toNat) ([]:List (List Int))))∧((au (bX t A K))∧((out.getD ((↑x10:Int).toNat) ([]:List (List Int))).length=(bX t A K).length)))∧True)∧(ac (dg (out.getD ((↑x10:Int).toNat) ([]:List (List Int))) (bX t A K)) ((ab ((↑x10:Int)+(1:Int)))∧(∃x11:Nat,(((x11≤out.length)∧((bf K=K.length)∧(∀(j1:Nat),j1<x11→dg (out.getD j1 ([]:List (List Int))) (bX t A K)=true)))∧((out.length - x11<out.length - x10)∧((A=A)∧((K=K)∧((out=out)∧(((↑(bf K):Int)=(↑(bf K):Int))∧((bX t A K=bX t A K)∧(((↑x10:Int)+(1:Int)=(↑x11:Int))∧(t=t))))))))))) (∃x12:Unit,((bf K=K.length)∧((out=out)∧((bX t A K=bX t A K)∧(((↑x10:Int)=(↑(ep (bX t A K) out):Int))∧(t=t))))))))) (∃x13:Unit,((bf K=K.length)∧((out=out)∧((bX t A K=bX t A K)∧(((↑x10:Int)=(↑(ep (bX t A K) out):Int))∧(t=t))))))))))∧(∀x14:Unit,((bf K=K.length)→((ar (out.length) (Option.some (↑(ep (bX t A K) out):Int)) Option.none)∧((ae (FC.len (FC.r3 IntKind.i64 (bX t A K::([]:List (List (List Int)))))+FC.len (FC.r3 IntKind.i64 (dB out (Option.some (↑(ep (bX t A K) out):Int)) Option.none))))∧((ar (out.length) Option.none (Option.some (↑(ep (bX t A K) out):Int)))∧((ae (FC.len (FC.r3 IntKind.i64 ([]:List (List (List Int))))+FC.len (FC.r3 IntKind.i64 (dB out Option.none (Option.some (↑(ep (bX t A K) out):Int)))))) ∧
 ((ae (FC.len (FC.r3 IntKind.i64 (([]:List (List (List Int)))++dB out Option.none (Option.some (↑(ep (bX t A K) out):Int))))+FC.len (FC.r3 IntKind.i64 (bX t A K::([]:List (List (List Int)))++dB out (Option.some (↑(ep (bX t A K) out):Int)) Option.none))))∧((([]:List (List (List Int)))++dB out Option.none (Option.some (↑(ep (bX t A K) out):Int))++(bX t A K::([]:List (List (List Int)))++dB out (Option.some (↑(ep (bX t A K) out):Int)) Option.none)=cO t A (d+(1:Nat)) K out)∧((t=t)∧True)))))))))))))) ((∃x15:Nat,(((x15≤A.length)∧(bf K≠K.length))∧((A=A)∧((K=K)∧((out=dV (dp t A (cO t A (d+(1:Nat) - (1:Nat))) K) out x15)∧(((↑(bf K):Int)=(↑(bf K):Int))∧(((0:Int)=(↑x15:Int))∧(t=t))))))))∧(∀x16:Nat,(((x16≤A.length)∧(bf K≠K.length))→(ac (decide ((↑x16:Int)<(↑(A.length):Int))) (((ae (K.length))∧True)∧((aa (↑(bf K):Int) (K.length))∧((((t.length≤(12:Nat))∧((ba (t.length) t)∧((AuOk (t.length) A)∧((A.length≤(1000000:Nat))∧(KOk (t.length) (A.length) (List.set K ((↑(bf K):Int).toNat) (↑x16:Int)))))))∧True)∧(ac ((d9 t A (List.set K ((↑(bf K):Int).toNat) (↑x16:Int))).2) ((((aM ((d9 t A (List.set K ((↑(bf K):Int).toNat) (↑x16:Int))).1)<d)∧((t.length≤(12:Nat))∧((ba (t.length) t)∧((AuOk (t.length) A)∧((A.length≤(100:Nat))∧((KOk (t.length) (A.length) ((d9 t A (List.set K ((↑(bf K):Int).toNat) (↑x16:Int))).1)) ∧
 ((∀(c:List (List Int)),c∈dV (dp t A (cO t A (d+(1:Nat) - (1:Nat))) K) out x16→ba (t.length) c)∧((dV (dp t A (cO t A (d+(1:Nat) - (1:Nat))) K) out x16).length+(100:Nat) ^ aM ((d9 t A (List.set K ((↑(bf K):Int).toNat) (↑x16:Int))).1)≤(1099511627775:Nat)))))))))∧((List.map List.length t=List.map List.length t)∧True))∧((ab ((↑x16:Int)+(1:Int)))∧(∃x17:Nat,(((x17≤A.length)∧(bf K≠K.length))∧((A.length - x17<A.length - x16)∧((A=A)∧((K=K)∧((cO t A d ((d9 t A (List.set K ((↑(bf K):Int).toNat) (↑x16:Int))).1) (dV (dp t A (cO t A (d+(1:Nat) - (1:Nat))) K) out x16)=dV (dp t A (cO t A (d+(1:Nat) - (1:Nat))) K) out x17)∧(((↑(bf K):Int)=(↑(bf K):Int))∧(((↑x16:Int)+(1:Int)=(↑x17:Int))∧(t=t))))))))))) ((ab ((↑x16:Int)+(1:Int)))∧(∃x18:Nat,(((x18≤A.length)∧(bf K≠K.length))∧((A.length - x18<A.length - x16)∧((A=A)∧((K=K)∧((dV (dp t A (cO t A (d+(1:Nat) - (1:Nat))) K) out x16=dV (dp t A (cO t A (d+(1:Nat) - (1:Nat))) K) out x18)∧(((↑(bf K):Int)=(↑(bf K):Int))∧(((↑x16:Int)+(1:Int)=(↑x18:Int))∧(t=t)))))))))))))) ((dV (dp t A (cO t A (d+(1:Nat) - (1:Nat))) K) out x16=cO t A (d+(1:Nat)) K out)∧((t=t)∧True))))))))))
theorem N4 (d:Nat) (t:List (List Int)) (A:List (List Int)) (K:List Int) (out:List (List (List Int))):aC Tryz.prog (af (Gn d)) ah (Gm (d+1) t A K out) Tryz.f175 (aE Tryz.f175) [(0,0)] [.c (.rows .i64 (t)),.c (.rows .i64 (A)),.c (.ints .i64 (K)),.c (.r3 .i64 (out))] (nk (d+1) t A K out)=yB d t A K out:=by kernel_rfl
theorem N5 (d:Nat) (t:List (List Int)) (A:List (List Int)) (K:List Int) (out:List (List (List Int))) (Yh:(nk (d+1) t A K out).pre):yB d t A K out:=by
 simp only [nk,yB,aG,u1,u2,u3,u4,u5,u6,u7,u8,u9,v1,v2,v3,v4,v5,v6,v7,v8,v9,w1,w2,w3,w4,aH,aa,ab,ae,ar] at Yh ⊢;simp only [FC.len,dB,Int.toNat_natCast];obtain ⟨h1,h2,h3,h4,h5,h6,h7,h8⟩:=Yh;have kl:=h6.len
 have pl:=oS K
 have p1:1≤100 ^ aM K:=Nat.one_le_pow _ _ (by omega)
 refine ⟨⟨⟨0,⟨by omega,fun j h=>by omega⟩,rfl⟩,fun x ⟨hx,ix⟩=>⟨fun g=>⟨by omega,fun q=>⟨by omega,x+1,⟨by omega,fun j hj=>?_⟩,by omega,by omega⟩,fun q=>⟨⟨⟩,?_⟩⟩,fun g=>⟨⟨⟩,?_⟩⟩⟩,fun _ _=>⟨fun hp=>?_,fun hp=>?_⟩⟩
 ·by_cases e:j=x
  ·subst e;exact q
  ·exact ix j (by omega)
 ·rw [yP K x ix hx (fun _=>by omega)]
 ·rw [yP K x ix hx (fun z=>absurd z (by omega))]
 ·have hp:bf K=K.length:=by omega
  have T:=Jw h3 h4 h6 hp
  have PC:=yM (bX t A K) out
  have o7:∀j,j<out.length→ba t.length (out.getD j []):=fun j hj=>h7 _ (cE out [] j hj)
  have e1:bf K=K.length:=hp
  refine ⟨⟨0,⟨by omega,e1⟩,rfl,rfl⟩,fun y ⟨hy,_⟩=>⟨fun g=>?_,fun g=>?_⟩⟩
  ·have hk:=rN K hp y (by omega)
   have hr:=h6.rng y (by omega)
   have L:=h4.len (K.getD y 0).toNat (by omega)
   have Lt:=(h3.2 y (by omega)).1
   refine ⟨by omega,by omega,by omega,⟨by omega,fun i hi=>?_⟩,by simp;omega,by omega,y+1,⟨by omega,e1⟩,by omega,by omega,?_⟩
   ·have:=h4.rng (K.getD y 0).toNat i (by omega) (by omega)
    rw [Lt];exact this
   ·rw [uf]
  ·have cT:(List.range y).map (fun y=>bU (A.getD (K.getD y 0).toNat []) (t.getD y []))=bX t A K:=by rw [show y=t.length by omega];rfl
   refine ⟨⟨⟨0,⟨by omega,e1,fun j h=>by omega⟩,cT,rfl⟩,fun j ⟨hj,_,ij⟩=>⟨fun g2=>⟨by omega,⟨pO (o7 j (by omega)) h2,pO T h2,by rw [(o7 j (by omega)).1,T.1]⟩,fun q=>⟨by omega,j+1,⟨by omega,e1,fun j1 hj1=>?_⟩,by omega,by omega⟩,fun q=>⟨⟨⟩,e1,?_⟩⟩,fun g2=>⟨⟨⟩,e1,?_⟩⟩⟩,fun _ _=>?_⟩
   ·by_cases e:j1=j
    ·subst e;exact q
    ·exact ij j1 (by omega)
   ·rw [yN _ out j ij hj (fun _=>q)]
   ·rw [yN _ out j ij hj (fun z=>absurd z (by omega))]
   ·simp only [List.length_cons,List.length_nil,List.length_append,List.length_take,List.length_drop,List.nil_append]
    refine ⟨by omega,by omega,by omega,by omega,by omega,?_⟩
    rw [cO,if_pos hp,nr];rfl
 ·have hp:bf K≠K.length:=by omega
  have hx:bf K<K.length:=by omega
  have NG:=yQ hx (i:=0)
  have P:100 ^ aM K=100 ^ (aM K - 1) * 100:=by rw [←Nat.pow_succ];congr 1;omega
  have B:∀i,i≤A.length→(∀c,c∈dV (dp t A (cO t A d) K) out i→ba t.length c)∧(dV (dp t A (cO t A d) K) out i).length≤out.length+i * 100 ^ (aM K - 1):=fun i hi=>by
   constructor
   ·refine rO (P:=fun o=>∀c,c∈o→ba t.length c) h7 i fun j o hj hP=>?_
    unfold dp;split
    ·exact hP
    ·rename_i K' hs
     exact yR h3 h4 (fun K hK hp=>Jw h3 h4 hK hp) d K' o (nt h3 h4 h6 hx (by omega) hs).1 hP
   ·refine yS i fun j o hj=>?_
    unfold dp;split
    ·omega
    ·rename_i K' hs
     have q:=nt h3 h4 h6 hx (by omega) hs
     have a:=GO h3 h4 (M:=100) h5 (by omega) d K' o q.1
     have b:100 ^ aM K'≤100 ^ (aM K - 1):=Nat.pow_le_pow_right (by omega) (by omega)
     omega
  refine ⟨⟨0,⟨by omega,hp⟩,rfl,rfl⟩,fun i ⟨hi,_⟩=>⟨fun g=>?_,fun g=>?_⟩⟩
  ·obtain ⟨B1,B2⟩:=B i hi
   have hk:=h6.set (bf K) (w:=(i:Int)) ⟨by omega,by omega⟩
   have step:∀r,dp t A (cO t A d) K i (dV (dp t A (cO t A d) K) out i)=r→r=dV (dp t A (cO t A d) K) out (i+1):=fun r e=>by rw [dV,e]
   refine ⟨by omega,by omega,⟨h2,h3,h4,by omega,hk⟩,fun q=>?_,fun q=>⟨by omega,i+1,⟨by omega,hp⟩,by omega,step _ ?_,by omega⟩⟩
   ·have ok:=S1 q
    have N:=nt h3 h4 h6 hx (i:=i) (by omega) ok
    have b:100 ^ aM (d9 t A (K.set (bf K) (i:Int))).1≤100 ^ (aM K - 1):=Nat.pow_le_pow_right (by omega) (by omega)
    have c:i * 100 ^ (aM K - 1)+100 ^ (aM K - 1)≤100 ^ (aM K - 1) * 100:=by
     rw [←Nat.succ_mul,Nat.mul_comm];exact Nat.mul_le_mul_left _ (by omega)
    refine ⟨⟨by omega,h2,h3,h4,h5,N.1,B1,?_⟩,by omega,i+1,⟨by omega,hp⟩,by omega,step _ ?_,by omega⟩
    ·show (dV (dp t A (cO t A d) K) out i).length+_≤_
     omega
    ·exact S3 ok
   ·exact S4 (S2 q)
  ·rw [cO,if_neg hp,show i=A.length by omega];rfl
theorem N6 (t:List (List Int)) (A:List (List Int)) (K:List Int) (out:List (List (List Int))) (h:(nk 0 t A K out).pre):False:=by
 simp only [nk] at h;omega
theorem N7 (d:Nat):Fits Tryz.prog 175 ⟨[(0,0)],oO d⟩:=by
 induction d with
 | zero =>
  refine Fo ⟨Tryz.f175,Tryz.func175,by kernel_rfl,by kernel_rfl⟩ (by decide) fun ds p h hp=>?_
  unfold oO at h;split at h
  ·cases h
   exact N6 _ _ _ _  hp
  ·cases h
 | succ d ih =>
  refine xo (Γ:=af (Gn d)) (aj GF (aj O6 (aj uG (aj NX (aj ih aF))))) Tryz.func175 (by kernel_rfl) (by kernel_rfl) (by kernel_rfl) fun ds p h hp=>?_
  unfold oO at h;split at h
  ·cases h
   exact ⟨ah,Gm _ _ _ _ _ ,by rw [N4];exact N5 _ _ _ _ _  hp⟩
  ·cases h
def rC (t:List (List Int)):Post:=⟨aW t=true∧AuOk t.length (cF t)∧(cF t).length≤100∧t.length≤7,.c (.ro (.r3 .i64 (gp t (cF t)))),[.rows 57 2 .i64 (t)]⟩
def yC:List AD→Option Post
 | [.c (.rows .i64 (t))]=>some (rC t)
 | _=>none
def Gp (t:List (List Int)):Nat→Option Ann
 | 0=>some (Ann.mk ((Nat)) (fun i=>⟨[(0,.c (.own (700))),(3,.c (.own (3))),(4,.c (.int .i64 ((i:Int))))],[(3,some (.ints 2 .i64 (List.replicate i (-1)))),(700,some (.rows 0 57 2 .i64 (t)))]⟩) (fun i=>i≤t.length) (fun i=>t.length - i) (fun _=>am))
 | _=>none
def Gq:List (Nat×Ctr):=[(176,⟨[],zi⟩),(175,⟨[(0,0)],oO 12⟩)]
def yD (t:List (List Int)):Prop :=
 ((∃x0:Nat,((x0≤t.length)∧(((0:Int)=(↑x0:Int))∧(([]=List.replicate x0 (-1:Int))∧(t=t)))))∧(∀x1:Nat,((x1≤t.length)→(ac (decide ((↑x1:Int)<(↑(t.length):Int))) ((ae ((List.replicate x1 (-1:Int)).length+[(-1:Int)].length))∧((ab ((↑x1:Int)+(1:Int)))∧(∃x2:Nat,((x2≤t.length)∧((t.length - x2<t.length - x1)∧(((↑x1:Int)+(1:Int)=(↑x2:Int))∧((List.replicate x1 (-1:Int)++[(-1:Int)]=List.replicate x2 (-1:Int))∧(t=t)))))))) ((aa (0:Int) ((List.replicate x1 (-1:Int)).length))∧(((aW t=true)∧True)∧((((aM (List.set (List.replicate x1 (-1:Int)) (0:Nat) (0:Int))<(12:Nat))∧((t.length≤(12:Nat))∧((ba (t.length) t)∧((AuOk (t.length) (cF t))∧(((cF t).length≤(100:Nat))∧((KOk (t.length) ((cF t).length) (List.set (List.replicate x1 (-1:Int)) (0:Nat) (0:Int)))∧((∀(c:List (List Int)),c∈([]:List (List (List Int)))→ba (t.length) c)∧(([]:List (List (List Int))).length+(100:Nat) ^ aM (List.set (List.replicate x1 (-1:Int)) (0:Nat) (0:Int))≤(1099511627775:Nat)))))))))∧((List.map List.length t=List.map List.length t)∧True))∧((cO t (cF t) (12:Nat) (List.set (List.replicate x1 (-1:Int)) (0:Nat) (0:Int)) ([]:List (List (List Int)))=gp t (cF t))∧((t=t)∧True)))))))))
theorem N8 (t:List (List Int)):aC Tryz.prog (af Gq) ah (Gp t) Tryz.f119 (aE Tryz.f119) [(0,0)] [.c (.rows .i64 (t))] (rC t)=yD t:=by kernel_rfl
theorem N9 (t:List (List Int)) (Yh:(rC t).pre):yD t:=by
 simp only [rC,yD,aG,u1,u2,u3,u4,u5,u6,u7,u8,u9,v1,v2,v3,v4,v5,v6,v7,v8,v9,w1,w2,w3,w4,aH,aa,ab,ae,ar] at Yh ⊢;obtain ⟨h1,h2,h3,h4⟩:=Yh;obtain ⟨q1,q2,q3⟩:=bA h1;have T:ba t.length t:=⟨rfl,fun x hx=>⟨(q3 x hx).1,fun y hy=>by
  have:=(q3 x hx).2 y hy
  have e2:en t x y=(t.getD x []).getD y 0:=rfl
  omega⟩⟩
 refine ⟨⟨0,by omega,rfl,rfl⟩,fun i hi=>⟨fun g=>⟨by omega,by omega,i+1,by omega,by omega,by omega,?_⟩,fun g=>?_⟩⟩
 ·rw [List.replicate_succ']
 ·rw [show i=t.length by omega]
  have NG:=GU (n:=t.length) (by omega)
  have P:100 ^ aM ((List.replicate t.length (-1)).set 0 0)≤100 ^ 6:=Nat.pow_le_pow_right (by omega) (by omega)
  exact ⟨by omega,h1,⟨by omega,by omega,T,h2,h3,Z0.ok yT h2,fun c hc=>by simp at hc,by simp;omega⟩,rfl⟩
theorem Oa:Fits Tryz.prog 119 ⟨[(0,0)],yC⟩:=by
 refine aJ (Γ:=af Gq) (aj O9 (aj (N7 12) aF)) Tryz.func119 fun ds p h hp=>?_
 unfold yC at h;split at h
 ·cases h
  exact ⟨ah,Gp _ ,by rw [N8];exact N9 _  hp⟩
 ·cases h
end Go.Sx
