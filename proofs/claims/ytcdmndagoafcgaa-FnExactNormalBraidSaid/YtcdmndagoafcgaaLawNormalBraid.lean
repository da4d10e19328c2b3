/- LawNormalBraid -/
import Derived.Test.YtcdmndagoafcgaaNbX
import Derived.Test.YtcdmndagoafcgaaSxLaw
import Derived.Test.YtcdmndagoafcgaaJoin
import Derived.Test.YtcdmndagoafcgaaRows
import Derived.KernelRfl
namespace Go.Proofs.Ytcdmndagoafcgaa.fnExactNormalBraid
open Go.Sx Go.ChangeShapes Go.WideShapes Go.ChangeAt Go.RowKit Go.ChangeMaps Go.Deep Go.Joins
set_option linter.unusedVariables false

set_option maxRecDepth 100000 in
theorem opened (H : Type) (enc : TypeId × Value → H) (W : World) (base : Nat) (vs : List Value) (ds : List (DataW H)) (p : List MemPlace) (hA : DataW.TrodAll enc Try.prog W 0 (fun _ => true) true [24] vs ds p)
    (hval : ∀ (j : Nat) t v, (#[24] : Array TypeId)[j]? = some t → vs[j]? = some v → Value.okWide Try.prog W .any base t v) :
    ∃ (ads : List AD) (pre : Prop), lNormal_ct ads = some ⟨pre, .c (.bool true), []⟩ ∧ pre ∧ vs.length = ads.length ∧ ∀ (i : Nat) (d : AD), ads[i]? = some d → ∃ v, vs[i]? = some v ∧ ArgRep Try.prog W [] [] [] i d v := by
  obtain ⟨v0, vs0, d0, ds0, p0, q0, rfl, rfl, rfl, h0, r0⟩ := trodAll_cons hA
  obtain ⟨rfl, rfl, rfl⟩ := trodAll_nil r0
  obtain ⟨v00, v01, y00, y01, n0, rfl, _, _, h00, h01⟩ := open_agg2 Try.underlying24 (by kernel_rfl) (by kernel_rfl) (hval 0 24 v0 rfl rfl) h0
  obtain ⟨l00, w00, o00⟩ := opn_int (t := 2) Try.underlying2 h00
  obtain ⟨l01, s01, w01, o01⟩ := opn_ints (t := 22) Try.underlying22 Try.underlying2 (by kernel_rfl) h01
  have a0 := arg_agg2 (t := 24) o00 o01 0
  refine ⟨[.agg [.int .i64 l00, .ints .i64 l01]], _, rfl, ?_, rfl, fun i d hi => ?_⟩
  · (simp only [maxLen_le] at *; omega)
  · match i, hi with
    | 0, hi => cases hi; exact ⟨_, rfl, a0⟩
    | i + 1, hi => simp at hi

set_option maxRecDepth 100000 in
theorem lifted (os : Os) (started : os.Started) (H : Type) (enc : TypeId × Value → H) :
    ReturnsInHanded {} Try.checked os 3 .any (Rows.fnExactNormalBraidSpec.pre6 enc Try.prog Try.f3 Rows.fnExactNormalBraidRow.domain false) (Rows.fnExactNormalBraidSpec.post enc Try.prog Try.f3 false true false false) := by
  refine law_lifted (C := Try.checked) (tb := 4) (by kernel_rfl) started (by kernel_rfl) Try.func3 (by kernel_rfl) rfl ?_ (by kernel_rfl) Try.underlying4 ?_
    (ChangeSpec.witness6 (enc := enc) (C := Try.checked) false ⟨#[], #[.agg #[.int .i64 0, .slice none 0 0]], []⟩ 8 (by kernel_rfl) (by kernel_rfl) (by kernel_rfl) (by kernel_rfl)) lNormal_fits ?_
  · rw [Try.params3]
    intro t ht
    have h : (#[24] : Array TypeId).toList.all (fun t => Try.prog.readableRec t && decide (t < Try.prog.types.size)) = true := by kernel_rfl
    have := List.all_eq_true.1 h t ht
    simp only [Bool.and_eq_true, decide_eq_true_eq] at this
    exact this
  · rw [Try.params3]
    intro ds hds
    match ds, hds with
    | [d0], _ => rfl
  · rw [Try.params3]
    exact fun W base vs ds p hA hval => opened H enc W base vs ds p hA hval

theorem joined : joinedFacts Try.pinned.checked.prog 3 Try.f3 Rows.fnExactNormalBraidSpec Rows.fnExactNormalBraidRow = true := by
  unfold joinedFacts
  exact band (band (band (band (band (band (band (by kernel_rfl) joinMay) joinFinal) joinMake) (by kernel_rfl)) (by kernel_rfl)) (by kernel_rfl)) (by kernel_rfl)

theorem named : Try.pinned.checked.prog.funcNamed Rows.fnExactNormalBraidRow.func = some 3 := by kernel_rfl

theorem proved : Rows.FnExactNormalBraidSaid :=
  OpenClaim.holds_of_wide 3 Try.f3 rfl rfl rfl rfl rfl rfl rfl ⟨rfl, rfl, rfl, rfl, rfl⟩ rfl rfl rfl rfl rfl named Try.func3 joined
    (of_decide_eq_true (by kernel_rfl)) (by unfold Func.isWrapper; first | (rw [if_pos (by decide +kernel)]; kernel_rfl) | (rw [if_neg (by decide +kernel)]; exact ⟨rfl, rfl⟩))
    (fun os started H enc _ => lifted os started H enc)
#print axioms proved
end Go.Proofs.Ytcdmndagoafcgaa.fnExactNormalBraid
