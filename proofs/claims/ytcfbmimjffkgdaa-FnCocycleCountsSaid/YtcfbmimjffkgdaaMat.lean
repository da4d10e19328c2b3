/- Mat -/
import Derived.Test.YtcfbmimjffkgdaaCob
open Go Go.Proofs
namespace Go.Sx
set_option linter.unusedSimpArgs false
set_option linter.unusedVariables false

def matsB (n m : Int) (f : List (List Int)) : Bool := decide ((f.length : Int) = n) && f.all (numsB n m)
def matB (n m : Int) (f : List (List Int)) : Bool := decide (1 ≤ m ∧ m ≤ 12) && matsB n m f

theorem matB_of {n m : Int} {f : List (List Int)} (h : matB n m f = true) : 1 ≤ m ∧ m ≤ 12 ∧ (f.length : Int) = n ∧ ∀ x, x < f.length → ((f.getD x []).length : Int) = n ∧ ∀ y, y < (f.getD x []).length → 0 ≤ (f.getD x []).getD y 0 ∧ (f.getD x []).getD y 0 ≤ m - 1 := by
  simp only [matB, matsB, Bool.and_eq_true, decide_eq_true_eq] at h
  refine ⟨by omega, by omega, by omega, fun x hx => ?_⟩
  have h1 := allG_get [] h.2.2 x hx
  simp only [numsB, Bool.and_eq_true, decide_eq_true_eq] at h1
  exact ⟨h1.2, fun y hy => allW_get h1.1 y hy⟩









theorem cbF_in {t : List (List Int)} {m : Int} {g : List Int} (h1 : tabB t = true) (h2 : shiftB (t.length : Int) m g = true) (x y : Nat) (hx : x < t.length) (hy : y < t.length) : 0 ≤ cbF t m g x y ∧ cbF t m g x y ≤ m - 1 := by
  have q := cb_in h1 h2 x y hx hy
  exact tmod_in (by omega) (by omega)

def smF (t : List (List Int)) (m : Int) (f : List (List Int)) (g : List Int) (x y : Nat) : Int := ((f.getD x []).getD y 0 + cbF t m g x y).tmod m


def smC (t : List (List Int)) (m : Int) (f : List (List Int)) (g : List Int) : List (List Int) × Int :=
  if tabB t = true then (if matB (t.length : Int) m f = true ∧ numsB (t.length : Int) m g = true then (tabR t.length (smF t m f g), 0) else ([], 2)) else ([], 1)

theorem smC_nt {t : List (List Int)} {m : Int} {f : List (List Int)} {g : List Int} (h : tabB t = false) : [] = (smC t m f g).1 ∧ 1 = (smC t m f g).2 := by simp [smC, h]
theorem smC_ns {t : List (List Int)} {m : Int} {f : List (List Int)} {g : List Int} (h : tabB t = true) (h2 : ¬ (matB (t.length : Int) m f = true ∧ numsB (t.length : Int) m g = true)) : [] = (smC t m f g).1 ∧ 2 = (smC t m f g).2 := by simp only [smC, h, if_neg h2, if_true]; exact ⟨trivial, trivial⟩
theorem smC_yes {t : List (List Int)} {m : Int} {f : List (List Int)} {g : List Int} (h : tabB t = true) (h2 : matB (t.length : Int) m f = true ∧ numsB (t.length : Int) m g = true) : tabR t.length (smF t m f g) = (smC t m f g).1 ∧ 0 = (smC t m f g).2 := by simp only [smC, h, if_pos h2, if_true]; exact ⟨trivial, trivial⟩



theorem smC_room (t : List (List Int)) (m : Int) (f : List (List Int)) (g : List Int) : roomR (smC t m f g).1 ∧ (smC t m f g).1.length ≤ 1048576 ∧ sumL (smC t m f g).1 ≤ 1048576 := by
  unfold smC
  split
  · rename_i h
    have ht := tabB_of h
    split
    · exact ⟨tabR_room _ _ (by omega), by simp only [tabR_length]; omega, Nat.le_trans (tabR_sum _ _ (by omega)) (by omega)⟩
    · exact ⟨⟨by simp, by simp⟩, by simp, by simp [sumL]⟩
  · exact ⟨⟨by simp, by simp⟩, by simp, by simp [sumL]⟩


end Go.Sx
