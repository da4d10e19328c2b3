/- Cob -/
import Derived.Test.YtcfbmimjffkgdaaTable
open Go Go.Proofs
namespace Go.Sx
set_option linter.unusedSimpArgs false
set_option linter.unusedVariables false

def cbF (t : List (List Int)) (m : Int) (g : List Int) (x y : Nat) : Int := (g.getD ((t.getD x []).getD y 0).toNat 0 - g.getD y 0 + m).tmod m

theorem cb_in {t : List (List Int)} {m : Int} {g : List Int} (h1 : tabB t = true) (h2 : shiftB (t.length : Int) m g = true) (x y : Nat) (hx : x < t.length) (hy : y < t.length) :
    1 ≤ m ∧ m ≤ 12 ∧ (g.length : Int) = (t.length : Int) ∧ (t.getD x []).length = t.length ∧ 0 ≤ (t.getD x []).getD y 0 ∧ (t.getD x []).getD y 0 ≤ (t.length : Int) - 1 ∧
    0 ≤ g.getD ((t.getD x []).getD y 0).toNat 0 ∧ g.getD ((t.getD x []).getD y 0).toNat 0 ≤ m - 1 ∧ 0 ≤ g.getD y 0 ∧ g.getD y 0 ≤ m - 1 := by
  obtain ⟨_, _, a⟩ := tabB_of h1
  obtain ⟨b, c⟩ := a x hx
  have d := c y hy
  obtain ⟨e, f, k, l⟩ := shiftB_of h2
  have u := l ((t.getD x []).getD y 0).toNat (by omega)
  have v := l y (by omega)
  exact ⟨e, f, k, b, d.1, d.2, u.1, u.2, v.1, v.2⟩





def cbC (t : List (List Int)) (m : Int) (g : List Int) : List (List Int) × Int :=
  if tabB t = true then (if shiftB (t.length : Int) m g = true then (tabR t.length (cbF t m g), 0) else ([], 2)) else ([], 1)

theorem cbC_nt {t : List (List Int)} {m : Int} {g : List Int} (h : tabB t = false) : [] = (cbC t m g).1 ∧ 1 = (cbC t m g).2 := by simp [cbC, h]
theorem cbC_ns {t : List (List Int)} {m : Int} {g : List Int} (h : tabB t = true) (h2 : shiftB (t.length : Int) m g = false) : [] = (cbC t m g).1 ∧ 2 = (cbC t m g).2 := by simp [cbC, h, h2]
theorem cbC_yes {t : List (List Int)} {m : Int} {g : List Int} (h : tabB t = true) (h2 : shiftB (t.length : Int) m g = true) : tabR t.length (cbF t m g) = (cbC t m g).1 ∧ 0 = (cbC t m g).2 := by simp [cbC, h, h2]

theorem cbC_room (t : List (List Int)) (m : Int) (g : List Int) : roomR (cbC t m g).1 := by
  unfold cbC
  split
  · split
    · rename_i h _
      have := tabB_of h
      exact tabR_room _ _ (by omega)
    · exact ⟨by simp, by simp⟩
  · exact ⟨by simp, by simp⟩

theorem cbC_len (t : List (List Int)) (m : Int) (g : List Int) : (cbC t m g).1.length ≤ 1048576 := by
  unfold cbC
  split
  · split
    · rename_i h _
      have := tabB_of h
      simp only [tabR_length]; omega
    · simp
  · simp

theorem cbC_sum (t : List (List Int)) (m : Int) (g : List Int) : sumL (cbC t m g).1 ≤ 1048576 := by
  unfold cbC
  split
  · split
    · rename_i h _
      have := tabB_of h
      exact Nat.le_trans (tabR_sum _ _ (by omega)) (by omega)
    · simp [sumL]
  · simp [sumL]




end Go.Sx
