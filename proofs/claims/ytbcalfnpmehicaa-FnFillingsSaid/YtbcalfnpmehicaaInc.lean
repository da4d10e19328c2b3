/- Inc -/
import Derived.Test.YtbcalfnpmehicaaBase
open Go Go.Proofs
namespace Go.Sx
set_option linter.unusedSimpArgs false
set_option linter.unusedVariables false

def unitL (n : Nat) : List Int := tab n fun i => (i : Int)

def rngB (n : Int) (l : List Int) : Prop := ∀ x ∈ l, 0 ≤ x ∧ x < n

theorem rngB_get {n : Int} {l : List Int} (h : rngB n l) (i : Nat) (hi : i < l.length) : 0 ≤ l.getD i 0 ∧ l.getD i 0 < n := h _ (getD_mem l 0 i hi)

theorem rngB_set {n : Int} {l : List Int} (h : rngB n l) {a : Nat} {v : Int} (hv : 0 ≤ v ∧ v < n) : rngB n (l.set a v) := fun x hx => by
  rcases mem_set hx with hx | rfl
  · exact h x hx
  · exact hv

def incB : List Int → Bool
  | x :: y :: r => decide (x < y) && incB (y :: r)
  | _ => true

theorem incB_drop (l : List Int) (i : Nat) (h : i + 1 < l.length) : incB (l.drop i) = (decide (l.getD i 0 < l.getD (i + 1) 0) && incB (l.drop (i + 1))) := by
  rw [drop_cons' l 0 i (by omega), drop_cons' l 0 (i + 1) h]
  rfl

theorem incB_short (l : List Int) (i : Nat) (h : l.length ≤ i + 1) : incB (l.drop i) = true := by
  by_cases hi : i < l.length
  · rw [drop_cons' l 0 i hi, List.drop_of_length_le h]; rfl
  · rw [List.drop_of_length_le (by omega)]; rfl

theorem incB_get {l : List Int} (h : incB l = true) (i : Nat) (hi : i + 1 < l.length) : l.getD i 0 < l.getD (i + 1) 0 := by
  have : ∀ j, j ≤ i → incB (l.drop j) = true := fun j => by
    induction j with
    | zero => intro _; simpa using h
    | succ j ih =>
      intro hj
      have := ih (by omega)
      rw [incB_drop l j (by omega), Bool.and_eq_true] at this
      exact this.2
  have := this i (Nat.le_refl _)
  rw [incB_drop l i hi, Bool.and_eq_true] at this
  exact of_decide_eq_true this.1

/-- Increasing numbers of 0..n-1, n of them, are all in order. -/
theorem inc_unit {l : List Int} (hr : rngB (l.length : Int) l) : incB l = decide (l = unitL l.length) := by
  cases hc : incB l with
  | true =>
    symm
    apply decide_eq_true
    have low : ∀ i, i < l.length → (i : Int) ≤ l.getD i 0 := fun i => by
      induction i with
      | zero => intro hi; exact (rngB_get hr 0 hi).1
      | succ i ih =>
        intro hi
        have h1 := ih (by omega)
        have h2 := incB_get hc i hi
        omega
    have high : ∀ j i, i + j + 1 = l.length → l.getD i 0 ≤ (i : Int) := fun j => by
      induction j with
      | zero =>
        intro i hi
        have := rngB_get hr i (by omega)
        omega
      | succ j ih =>
        intro i hi
        have h1 := ih (i + 1) (by omega)
        have h2 := incB_get hc i (by omega)
        omega
    apply list_ext (by simp [unitL, tab_length])
    intro i hi
    rw [unitL, tab_getD _ _ _ hi]
    have h1 := low i hi
    have h2 := high (l.length - i - 1) i (by omega)
    omega
  | false =>
    symm
    apply decide_eq_false
    intro he
    have : ∀ n i, n - i ≤ n → incB ((unitL n).drop (n - i)) = true := fun n i => by
      induction i with
      | zero => intro _; exact incB_short _ _ (by simp [unitL, tab_length])
      | succ i ih =>
        intro hi
        by_cases hn : i + 1 ≤ n
        · by_cases h1 : i = 0
          · subst h1; exact incB_short _ _ (by simp [unitL, tab_length]; omega)
          · rw [incB_drop _ _ (by simp [unitL, tab_length]; omega), Bool.and_eq_true]
            refine ⟨decide_eq_true ?_, ?_⟩
            · rw [unitL, tab_getD _ _ _ (by omega), tab_getD _ _ _ (by omega)]; omega
            · rw [show n - (i + 1) + 1 = n - i by omega]; exact ih (by omega)
        · have := ih (by omega)
          rwa [show n - (i + 1) = n - i by omega]
    have := this l.length l.length (by omega)
    rw [Nat.sub_self, List.drop_zero, ← he, hc] at this
    cases this





end Go.Sx
