/- BraidSum -/
import Derived.Test.YtcdmndagoafcgaaBraidB
open Go Go.Proofs
namespace Go.Sx
set_option linter.unusedSimpArgs false
set_option linter.unusedVariables false

def sgn (x : Int) : Int := if x < 0 then -1 else 1

def sgnN (w : List Int) : Nat → Int
  | 0 => 0
  | i + 1 => sgnN w i + sgn (w.getD i 0)

theorem sgn_le (x : Int) : -1 ≤ sgn x ∧ sgn x ≤ 1 := by unfold sgn; split <;> omega

theorem sgnN_le (w : List Int) : ∀ i : Nat, -(i : Int) ≤ sgnN w i ∧ sgnN w i ≤ (i : Int)
  | 0 => by simp [sgnN]
  | i + 1 => by
    have h1 := sgnN_le w i
    have h2 := sgn_le (w.getD i 0)
    simp only [sgnN]
    omega

theorem braidB_len {s : Int} {w : List Int} (h : braidB s w = true) : w.length ≤ 30 := by
  simp only [braidB, Bool.and_eq_true, decide_eq_true_eq] at h
  exact h.1.2

theorem braidB_s {s : Int} {w : List Int} (h : braidB s w = true) : 2 ≤ s ∧ s ≤ 6 := by
  simp only [braidB, Bool.and_eq_true, decide_eq_true_eq] at h
  exact h.1.1

theorem braidB_get {s : Int} {w : List Int} (h : braidB s w = true) (i : Nat) (hi : i < w.length) : w.getD i 0 ≠ 0 ∧ 1 - s ≤ w.getD i 0 ∧ w.getD i 0 ≤ s - 1 := by
  simp only [braidB, Bool.and_eq_true, decide_eq_true_eq] at h
  have := List.all_eq_true.1 h.2 _ (getD_mem w 0 i hi)
  exact of_decide_eq_true this

def sumC (s : Int) (w : List Int) : Int × Int := if braidB s w = true then (sgnN w w.length, 0) else (0, 1)

def signOf_p (x : Int) : Post := ⟨True, .c (.int .i64 (sgn x)), []⟩
def signOf_ct : List AD → Option Post
  | [.c (.int .i64 (x))] => some (signOf_p x)
  | _ => none
def signOf_G : List (Nat × Ctr) := []
def signOf_V (x : Int) : Prop :=
  (BrP (Decidable.decide (x < (0 : Int)))
 (((-1 : Int) = sgn x) ∧
 (True))
 (((1 : Int) = sgn x) ∧
 (True)))
theorem signOf_vc (x : Int) : runF Try.prog (gam signOf_G) noWr noAnn Try.f121 (bodyOf Try.f121) [] [.c (.int .i64 (x))] (signOf_p x) = signOf_V x := by kernel_rfl
theorem signOf_ok (x : Int) (hpre : (signOf_p x).pre) : signOf_V x := by
  simp only [signOf_p, signOf_V, BrP_iff, true_and, and_true, decide_eq_true_eq, decide_eq_false_iff_not, bne_iff_ne, beq_iff_eq, bne_eq_false_iff_eq, beq_eq_false_iff_ne, Bool.not_eq_true, Bool.not_eq_false, Bool.not_true, Bool.not_false, Bool.not_eq_eq_eq_not, Int.toNat_natCast, List.length_append, List.length_take, List.length_replicate, List.length_set, List.length_map, List.length_drop, List.length_nil, List.length_cons, markL_length, inB, InR, room, bdsOk] at hpre ⊢
  refine ⟨fun h => by simp [sgn, h], fun h => by simp [sgn, h]⟩
theorem signOf_fits : Fits Try.prog 121 ⟨[], signOf_ct⟩ := by
  refine fits_fn (Γ := gam signOf_G) gok_nil Try.func121 (by kernel_rfl) (by kernel_rfl) (by kernel_rfl) fun ds p h hp => ?_
  unfold signOf_ct at h
  split at h
  · cases h
    exact ⟨noWr, noAnn, by rw [signOf_vc]; exact signOf_ok _  hp⟩
  · cases h




end Go.Sx
