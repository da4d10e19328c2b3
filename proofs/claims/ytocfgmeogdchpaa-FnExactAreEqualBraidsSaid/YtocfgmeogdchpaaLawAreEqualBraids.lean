/- LawAreEqualBraids -/
import Derived.Test.YtocfgmeogdchpaaNbL
import Derived.Test.YtocfgmeogdchpaaSxLaw
import Derived.Test.YtocfgmeogdchpaaJoin
import Derived.Test.YtocfgmeogdchpaaRows
import Derived.KernelRfl
namespace Go.Proofs.Ytocfgmeogdchpaa.fnExactAreEqualBraids
open Go.Sx Go.ChangeShapes Go.WideShapes Go.ChangeAt Go.RowKit Go.ChangeMaps Go.Deep Go.Joins
set_option linter.unusedVariables false

set_option maxRecDepth 100000 in
theorem opened (H : Type) (enc : TypeId × Value → H) (W : World) (base : Nat) (vs : List Value) (ds : List (DataW H)) (p : List MemPlace) (hA : DataW.TrodAll enc Try.prog W 0 (fun _ => true) true [24, 24] vs ds p)
    (hval : ∀ (j : Nat) t v, (#[24, 24] : Array TypeId)[j]? = some t → vs[j]? = some v → Value.okWide Try.prog W .any base t v) :
    ∃ (ads : List AD) (pre : Prop), lAreEq_ct ads = some ⟨pre, .c (.bool true), []⟩ ∧ pre ∧ vs.length = ads.length ∧ ∀ (i : Nat) (d : AD), ads[i]? = some d → ∃ v, vs[i]? = some v ∧ ArgRep Try.prog W [] [] [] i d v := by
  obtain ⟨v0, vs0, d0, ds0, p0, q0, rfl, rfl, rfl, h0, r0⟩ := trodAll_cons hA
  obtain ⟨v1, vs1, d1, ds1, p1, q1, rfl, rfl, rfl, h1, r1⟩ := trodAll_cons r0
  obtain ⟨rfl, rfl, rfl⟩ := trodAll_nil r1
  obtain ⟨v00, v01, y00, y01, n0, rfl, _, _, h00, h01⟩ := open_agg2 Try.underlying24 (by kernel_rfl) (by kernel_rfl) (hval 0 24 v0 rfl rfl) h0
  obtain ⟨l00, w00, o00⟩ := opn_int (t := 2) Try.underlying2 h00
  obtain ⟨l01, s01, w01, o01⟩ := opn_ints (t := 22) Try.underlying22 Try.underlying2 (by kernel_rfl) h01
  have a0 := arg_agg2 (t := 24) o00 o01 0
  obtain ⟨v10, v11, y10, y11, n1, rfl, _, _, h10, h11⟩ := open_agg2 Try.underlying24 (by kernel_rfl) (by kernel_rfl) (hval 1 24 v1 rfl rfl) h1
  obtain ⟨l10, w10, o10⟩ := opn_int (t := 2) Try.underlying2 h10
  obtain ⟨l11, s11, w11, o11⟩ := opn_ints (t := 22) Try.underlying22 Try.underlying2 (by kernel_rfl) h11
  have a1 := arg_agg2 (t := 24) o10 o11 1
  refine ⟨[.agg [.int .i64 l00, .ints .i64 l01], .agg [.int .i64 l10, .ints .i64 l11]], _, rfl, ?_, rfl, fun i d hi => ?_⟩
  · (simp only [maxLen_le] at *; omega)
  · match i, hi with
    | 0, hi => cases hi; exact ⟨_, rfl, a0⟩
    | 1, hi => cases hi; exact ⟨_, rfl, a1⟩
    | i + 2, hi => simp at hi

set_option maxRecDepth 100000 in
theorem lifted (os : Os) (started : os.Started) (H : Type) (enc : TypeId × Value → H) :
    ReturnsInHanded {} Try.checked os 4 .any (Rows.fnExactAreEqualBraidsSpec.pre6 enc Try.prog Try.f4 Rows.fnExactAreEqualBraidsRow.domain false) (Rows.fnExactAreEqualBraidsSpec.post enc Try.prog Try.f4 false true false false) := by
  refine law_lifted (C := Try.checked) (tb := 4) (by kernel_rfl) started (by kernel_rfl) Try.func4 (by kernel_rfl) rfl ?_ (by kernel_rfl) Try.underlying4 ?_
    (ChangeSpec.witness6 (enc := enc) (C := Try.checked) false ⟨#[], #[.agg #[.int .i64 0, .slice none 0 0], .agg #[.int .i64 0, .slice none 0 0]], []⟩ 8 (by kernel_rfl) (by kernel_rfl) (by kernel_rfl) (by kernel_rfl)) lAreEq_fits ?_
  · rw [Try.params4]
    intro t ht
    have h : (#[24, 24] : Array TypeId).toList.all (fun t => Try.prog.readableRec t && decide (t < Try.prog.types.size)) = true := by kernel_rfl
    have := List.all_eq_true.1 h t ht
    simp only [Bool.and_eq_true, decide_eq_true_eq] at this
    exact this
  · rw [Try.params4]
    intro ds hds
    match ds, hds with
    | [d0, d1], _ => rfl
  · rw [Try.params4]
    exact fun W base vs ds p hA hval => opened H enc W base vs ds p hA hval

theorem joined : joinedFacts Try.pinned.checked.prog 4 Try.f4 Rows.fnExactAreEqualBraidsSpec Rows.fnExactAreEqualBraidsRow = true := by
  unfold joinedFacts
  exact band (band (band (band (band (band (band (by kernel_rfl) joinMay) joinFinal) joinMake) (by kernel_rfl)) (by kernel_rfl)) (by kernel_rfl)) (by kernel_rfl)

theorem named : Try.pinned.checked.prog.funcNamed Rows.fnExactAreEqualBraidsRow.func = some 4 := by kernel_rfl

theorem proved : Rows.FnExactAreEqualBraidsSaid :=
  OpenClaim.holds_of_wide 4 Try.f4 rfl rfl rfl rfl rfl rfl rfl ⟨rfl, rfl, rfl, rfl, rfl⟩ rfl rfl rfl rfl rfl named Try.func4 joined
    (of_decide_eq_true (by kernel_rfl)) (by unfold Func.isWrapper; first | (rw [if_pos (by decide +kernel)]; kernel_rfl) | (rw [if_neg (by decide +kernel)]; exact ⟨rfl, rfl⟩))
    (fun os started H enc _ => lifted os started H enc)
#print axioms proved
end Go.Proofs.Ytocfgmeogdchpaa.fnExactAreEqualBraids
