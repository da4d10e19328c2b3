/- Contracts on the way of BraidSum. -/
import Derived.Test.YtkpkbfklidaoiaaBraidB
open Go Go.Proofs
namespace Go.Sx
set_option linter.unusedSimpArgs false
set_option linter.unusedVariables false

def sgn (x : Int) : Int := if x < 0 then -1 else 1

def sgnN (w : List Int) : Nat → Int
  | 0 => 0
  | i + 1 => sgnN w i + sgn (w.getD i 0)

theorem sgn_le (x : Int) : -1 ≤ sgn x ∧ sgn x ≤ 1 := by unfold sgn; split <;> omega

theorem sgnN_le (w : List Int) : ∀ i : Nat, -(i : Int) ≤ sgnN w i ∧ sgnN w i ≤ (i : Int)
  | 0 => by simp [sgnN]
  | i + 1 => by
    have h1 := sgnN_le w i
    have h2 := sgn_le (w.getD i 0)
    simp only [sgnN]
    omega

theorem braidB_len {s : Int} {w : List Int} (h : braidB s w = true) : w.length ≤ 30 := by
  simp only [braidB, Bool.and_eq_true, decide_eq_true_eq] at h
  exact h.1.2

theorem braidB_s {s : Int} {w : List Int} (h : braidB s w = true) : 2 ≤ s ∧ s ≤ 6 := by
  simp only [braidB, Bool.and_eq_true, decide_eq_true_eq] at h
  exact h.1.1

theorem braidB_get {s : Int} {w : List Int} (h : braidB s w = true) (i : Nat) (hi : i < w.length) : w.getD i 0 ≠ 0 ∧ 1 - s ≤ w.getD i 0 ∧ w.getD i 0 ≤ s - 1 := by
  simp only [braidB, Bool.and_eq_true, decide_eq_true_eq] at h
  have := List.all_eq_true.1 h.2 _ (getD_mem w 0 i hi)
  exact of_decide_eq_true this

def sumC (s : Int) (w : List Int) : Int × Int := if braidB s w = true then (sgnN w w.length, 0) else (0, 1)





end Go.Sx

