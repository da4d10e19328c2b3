/- LawCirclesOf -/
import Derived.Test.YtkmldclpaniclaaSxLaw
import Derived.Test.YtkmldclpaniclaaRows
import Derived.KernelRfl
namespace Go.Proofs.Ytkmldclpaniclaa.fnExactCirclesOf
open Go.Sx Go.ChangeShapes Go.WideShapes Go.ChangeAt Go.RowKit Go.ChangeMaps Go.Deep Go.Joins
set_option linter.unusedVariables false
set_option maxRecDepth 100000 in
theorem opened (H:Type) (enc:TypeId×Value→H) (W:World) (base:Nat) (vs:List Value) (ds:List (DataW H)) (p:List MemPlace) (hA:DataW.TrodAll enc Try.prog W 0 (fun _=>true) true [24] vs ds p)
  (hval:∀(j:Nat) t v,(#[24]:Array TypeId)[j]?=some t→vs[j]?=some v→Value.okWide Try.prog W .any base t v) :
  ∃(ads:List AD) (pre:Prop),zj ads=some ⟨pre,.c (.bool true),[]⟩∧pre∧vs.length=ads.length∧∀(i:Nat) (d:AD),ads[i]?=some d→∃v,vs[i]?=some v∧bT Try.prog W [] [] [] i d v:=by
 obtain ⟨v0,vs0,d0,ds0,p0,q0,rfl,rfl,rfl,h0,r0⟩:=trodAll_cons hA;obtain ⟨rfl,rfl,rfl⟩:=trodAll_nil r0;obtain ⟨v00,y00,n0,rfl,_,_,h00⟩:=Oo Try.underlying24 (by kernel_rfl) (by kernel_rfl) (hval 0 24 v0 rfl rfl) h0
 obtain ⟨l00,s00,w00,o00⟩:=Om (t:=22) Try.underlying22 Try.underlying42 Try.underlying2 (by kernel_rfl) (by kernel_rfl) h00
 have a0:=On (t:=24) o00 0
 refine ⟨[.agg [.rows .i64 l00]],_,rfl,?_,rfl,fun i d hi=>?_⟩
 ·simp only [Ol] at s00 w00;exact ⟨by omega,fun r hr=>by have:=(w00 r hr).1;omega⟩
 ·match i,hi with
  | 0,hi=>cases hi;exact ⟨_,rfl,a0⟩
  | i+1,hi=>simp at hi
set_option maxRecDepth 100000 in
theorem lifted (os:Os) (started:os.Started) (H:Type) (enc:TypeId×Value→H) :
  ReturnsInHanded {} Try.checked os 4 .any (Rows.fnExactCirclesOfSpec.pre6 enc Try.prog Try.f4 Rows.fnExactCirclesOfRow.domain false) (Rows.fnExactCirclesOfSpec.post enc Try.prog Try.f4 false true false false):=by
 refine Oq (C:=Try.checked) (tb:=4) (by kernel_rfl) started (by kernel_rfl) Try.func4 (by kernel_rfl) rfl ?_ (by kernel_rfl) Try.underlying4 ?_
  (ChangeSpec.witness6 (enc:=enc) (C:=Try.checked) false ⟨#[],#[.agg #[.slice none 0 0]],[]⟩ 8 (by kernel_rfl) (by kernel_rfl) (by kernel_rfl) (by kernel_rfl)) N7 ?_
 ·rw [Try.params4]
  intro t ht
  have h:(#[24]:Array TypeId).toList.all (fun t=>Try.prog.readableRec t&&decide (t<Try.prog.types.size))=true:=by kernel_rfl
  have:=List.all_eq_true.1 h t ht
  simp only [Bool.and_eq_true,decide_eq_true_eq] at this;exact this
 ·rw [Try.params4]
  intro ds hds
  match ds,hds with
  | [d0],_=>rfl
 ·rw [Try.params4]
  exact fun W base vs ds p hA hval=>opened H enc W base vs ds p hA hval
theorem joined:joinedFacts Try.pinned.checked.prog 4 Try.f4 Rows.fnExactCirclesOfSpec Rows.fnExactCirclesOfRow=true:=by
 unfold joinedFacts;exact kL (kL (kL (kL (kL (kL (kL (by kernel_rfl) Oi) Oj) Ok) (by kernel_rfl)) (by kernel_rfl)) (by kernel_rfl)) (by kernel_rfl)
theorem named:Try.pinned.checked.prog.funcNamed Rows.fnExactCirclesOfRow.func=some 4:=by kernel_rfl
theorem proved:Rows.FnExactCirclesOfSaid :=
 OpenClaim.holds_of_wide 4 Try.f4 rfl rfl rfl rfl rfl rfl rfl ⟨rfl,rfl,rfl,rfl,rfl⟩ rfl rfl rfl rfl rfl named Try.func4 joined
  (of_decide_eq_true (by kernel_rfl)) (by unfold Func.isWrapper;first | (rw [if_pos (by decide +kernel)];kernel_rfl) | (rw [if_neg (by decide +kernel)];exact ⟨rfl,rfl⟩))
  (fun os started H enc _=>lifted os started H enc)
#print axioms proved
end Go.Proofs.Ytkmldclpaniclaa.fnExactCirclesOf
