/- Own -/
import Derived.Test.YtcfbmimjffkgdaaBase
open Go Go.Proofs
namespace Go.Sx
set_option linter.unusedSimpArgs false
set_option linter.unusedVariables false

def l01Own_p (l : List Int) : Post := ⟨room l.length, .c (.ints 2 .i64 (l)), []⟩
def l01Own_ct : List AD → Option Post
  | [.c (.ints .i64 (l))] => some (l01Own_p l)
  | _ => none
def l01Own_G : List (Nat × Ctr) := []
def l01Own_V (l : List Int) : Prop :=
  ((room (List.length ([] : List Int) + List.length l)) ∧
 (([] ++ l = l) ∧
 (True)))
theorem l01Own_vc (l : List Int) : runF Try.prog (gam l01Own_G) noWr noAnn Try.f97 (bodyOf Try.f97) [] [.c (.ints .i64 (l))] (l01Own_p l) = l01Own_V l := by kernel_rfl
theorem l01Own_ok (l : List Int) (hpre : (l01Own_p l).pre) : l01Own_V l := by
  simp only [l01Own_p, l01Own_V, BrP_iff, true_and, and_true, decide_eq_true_eq, decide_eq_false_iff_not, bne_iff_ne, beq_iff_eq, bne_eq_false_iff_eq, beq_eq_false_iff_ne, Bool.not_eq_true, Bool.not_eq_false, Bool.not_true, Bool.not_false, Bool.not_eq_eq_eq_not, Int.toNat_natCast, List.length_append, List.length_take, List.length_replicate, List.length_set, List.length_map, List.length_drop, List.length_nil, List.length_cons, markL_length, inB, InR, room, bdsOk] at hpre ⊢
  simp [hpre]
theorem l01Own_fits : Fits Try.prog 97 ⟨[], l01Own_ct⟩ := by
  refine fits_fn (Γ := gam l01Own_G) gok_nil Try.func97 (by kernel_rfl) (by kernel_rfl) (by kernel_rfl) fun ds p h hp => ?_
  unfold l01Own_ct at h
  split at h
  · cases h
    exact ⟨noWr, noAnn, by rw [l01Own_vc]; exact l01Own_ok _  hp⟩
  · cases h

end Go.Sx
