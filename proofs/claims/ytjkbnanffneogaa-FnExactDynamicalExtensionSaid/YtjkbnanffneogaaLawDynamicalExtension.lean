/- The statement FnExactDynamicalExtension: whatever the arguments, the law returns true and leaves them as they were. No condition. -/
import Derived.Test.YtjkbnanffneogaaDynE
import Derived.Test.YtjkbnanffneogaaSxLaw
import Derived.Test.YtjkbnanffneogaaJoin
import Derived.Test.YtjkbnanffneogaaRows
import Derived.KernelRfl
namespace Go.Proofs.Ytjkbnanffneogaa.fnExactDynamicalExtension
open Go.Sx Go.ChangeShapes Go.WideShapes Go.ChangeAt Go.RowKit Go.ChangeMaps Go.Deep Go.Joins
set_option linter.unusedVariables false

set_option maxRecDepth 100000 in
theorem opened (H : Type) (enc : TypeId × Value → H) (W : World) (base : Nat) (vs : List Value) (ds : List (DataW H)) (p : List MemPlace) (hA : DataW.TrodAll enc Try.prog W 0 (fun _ => true) true [42, 2, 34] vs ds p)
    (hval : ∀ (j : Nat) t v, (#[42, 2, 34] : Array TypeId)[j]? = some t → vs[j]? = some v → Value.okWide Try.prog W .any base t v) :
    ∃ (ads : List AD) (pre : Prop), lDE_ct ads = some ⟨pre, .c (.bool true), []⟩ ∧ pre ∧ vs.length = ads.length ∧ ∀ (i : Nat) (d : AD), ads[i]? = some d → ∃ v, vs[i]? = some v ∧ ArgRep Try.prog W [] [] [] i d v := by
  obtain ⟨v0, vs0, d0, ds0, p0, q0, rfl, rfl, rfl, h0, r0⟩ := trodAll_cons hA
  obtain ⟨v1, vs1, d1, ds1, p1, q1, rfl, rfl, rfl, h1, r1⟩ := trodAll_cons r0
  obtain ⟨v2, vs2, d2, ds2, p2, q2, rfl, rfl, rfl, h2, r2⟩ := trodAll_cons r1
  obtain ⟨rfl, rfl, rfl⟩ := trodAll_nil r2
  obtain ⟨v00, y00, n0, rfl, _, _, h00⟩ := opn_agg1 Try.underlying42 (by kernel_rfl) (by kernel_rfl) (hval 0 42 v0 rfl rfl) h0
  obtain ⟨l00, s00, w00, o00⟩ := opn_rows (t := 24) Try.underlying24 Try.underlying41 Try.underlying2 (by kernel_rfl) (by kernel_rfl) h00
  have a0 := arg_agg1 (t := 42) o00 0
  obtain ⟨_, rfl⟩ := okWide_int Try.underlying2 (hval 1 2 v1 rfl rfl)
  obtain ⟨_, g1⟩ := trod_of_okWide rfl h1
  obtain ⟨l1, w1, o1⟩ := opn_int (t := 2) Try.underlying2 g1
  have a1 := arg_c o1 1
  obtain ⟨_, _, _, rfl⟩ := okWide_slice Try.underlying34 (hval 2 34 v2 rfl rfl)
  obtain ⟨_, g2⟩ := trod_of_okWide rfl h2
  obtain ⟨l2, s2, w2, o2⟩ := opn_r4 (t := 34) Try.underlying34 Try.underlying59 Try.underlying24 Try.underlying41 Try.underlying2 (by kernel_rfl) (by kernel_rfl) (by kernel_rfl) (by kernel_rfl) g2
  have a2 := arg_c o2 2
  refine ⟨[.agg [.rows .i64 l00], .c (.int .i64 l1), .c (.r4 .i64 l2)], _, rfl, ?_, rfl, fun i d hi => ?_⟩
  · (simp only [maxLen_le] at s00 w00 s2 w2; exact ⟨⟨by omega, fun r hr => by have := (w00 r hr).1; omega⟩, by omega, fun r hr => ⟨by have := (w2 r hr).1; omega, fun p hp => ⟨by have := ((w2 r hr).2 p hp).1; omega, fun o ho => by have := ((w2 r hr).2 p hp).2 o ho; omega⟩⟩⟩)
  · match i, hi with
    | 0, hi => cases hi; exact ⟨_, rfl, a0⟩
    | 1, hi => cases hi; exact ⟨_, rfl, a1⟩
    | 2, hi => cases hi; exact ⟨_, rfl, a2⟩
    | i + 3, hi => simp at hi

set_option maxRecDepth 100000 in
theorem lifted (os : Os) (started : os.Started) (H : Type) (enc : TypeId × Value → H) :
    ReturnsInHanded {} Try.checked os 6 .any (Rows.fnExactDynamicalExtensionSpec.pre6 enc Try.prog Try.f6 Rows.fnExactDynamicalExtensionRow.domain false) (Rows.fnExactDynamicalExtensionSpec.post enc Try.prog Try.f6 false true false false) := by
  refine law_lifted (C := Try.checked) (tb := 4) (by kernel_rfl) started (by kernel_rfl) Try.func6 (by kernel_rfl) rfl ?_ (by kernel_rfl) Try.underlying4 ?_
    (ChangeSpec.witness6 (enc := enc) (C := Try.checked) false ⟨#[], #[.agg #[.slice none 0 0], .int .i64 0, .slice none 0 0], []⟩ 8 (by kernel_rfl) (by kernel_rfl) (by kernel_rfl) (by kernel_rfl)) lDE_fits ?_
  · rw [Try.params6]
    intro t ht
    have h : (#[42, 2, 34] : Array TypeId).toList.all (fun t => Try.prog.readableRec t && decide (t < Try.prog.types.size)) = true := by kernel_rfl
    have := List.all_eq_true.1 h t ht
    simp only [Bool.and_eq_true, decide_eq_true_eq] at this
    exact this
  · rw [Try.params6]
    intro ds hds
    match ds, hds with
    | [d0, d1, d2], _ => rfl
  · rw [Try.params6]
    exact fun W base vs ds p hA hval => opened H enc W base vs ds p hA hval

theorem joined : joinedFacts Try.pinned.checked.prog 6 Try.f6 Rows.fnExactDynamicalExtensionSpec Rows.fnExactDynamicalExtensionRow = true := by
  unfold joinedFacts
  exact band (band (band (band (band (band (band (by kernel_rfl) joinMay) joinFinal) joinMake) (by kernel_rfl)) (by kernel_rfl)) (by kernel_rfl)) (by kernel_rfl)

theorem named : Try.pinned.checked.prog.funcNamed Rows.fnExactDynamicalExtensionRow.func = some 6 := by kernel_rfl

theorem proved : Rows.FnExactDynamicalExtensionSaid :=
  OpenClaim.holds_of_wide 6 Try.f6 rfl rfl rfl rfl rfl rfl rfl ⟨rfl, rfl, rfl, rfl, rfl⟩ rfl rfl rfl rfl rfl named Try.func6 joined
    (of_decide_eq_true (by kernel_rfl)) (by unfold Func.isWrapper; first | (rw [if_pos (by decide +kernel)]; kernel_rfl) | (rw [if_neg (by decide +kernel)]; exact ⟨rfl, rfl⟩))
    (fun os started H enc _ => lifted os started H enc)
#print axioms proved
end Go.Proofs.Ytjkbnanffneogaa.fnExactDynamicalExtension
