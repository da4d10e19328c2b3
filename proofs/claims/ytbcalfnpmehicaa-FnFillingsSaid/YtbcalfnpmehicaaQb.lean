/- Qb -/
import Derived.Test.YtbcalfnpmehicaaRb
import Derived.Test.YtbcalfnpmehicaaInc
open Go Go.Proofs
namespace Go.Sx
set_option linter.unusedSimpArgs false
set_option linter.unusedVariables false

/-- Two neighbours are equal. -/
def flB (x : List Int) : Bool := !((List.range (x.length - 1)).all fun i => decide (x.getD (i + 1) 0 ≠ x.getD i 0))





/-- The chain with the coefficients of flat tuples below i replaced by 0. -/
def clrN (n k : Int) (c : List Int) (i : Nat) : List Int := tab c.length fun q => if q < i ∧ flB (digN n k.toNat (q : Int)) = true then 0 else c.getD q 0

theorem clrN_length (n k : Int) (c : List Int) (i : Nat) : (clrN n k c i).length = c.length := tab_length _ _
theorem clrN_zero (n k : Int) (c : List Int) : clrN n k c 0 = c := by
  conv => rhs; rw [eq_tab c]
  exact tab_ext fun q _ => if_neg (by omega)
theorem clrN_yes {n k : Int} {c : List Int} {i : Nat} (h : flB (digN n k.toNat (i : Int)) = true) : (clrN n k c i).set i 0 = clrN n k c (i + 1) := by
  rw [clrN, tab_set]
  refine tab_ext fun q _ => ?_
  by_cases hq : q = i
  · subst hq; rw [if_pos rfl, if_pos ⟨by omega, h⟩]
  · rw [if_neg hq]
    by_cases h2 : q < i ∧ flB (digN n k.toNat (q : Int)) = true
    · rw [if_pos h2, if_pos ⟨by omega, h2.2⟩]
    · rw [if_neg h2, if_neg fun h3 => h2 ⟨by omega, h3.2⟩]
theorem clrN_no {n k : Int} {c : List Int} {i : Nat} (h : flB (digN n k.toNat (i : Int)) = false) : clrN n k c i = clrN n k c (i + 1) := by
  refine tab_ext fun q _ => ?_
  by_cases hq : q = i
  · subst hq; rw [if_neg (by omega), if_neg (by rw [h]; simp)]
  · by_cases h2 : q < i ∧ flB (digN n k.toNat (q : Int)) = true
    · rw [if_pos h2, if_pos ⟨by omega, h2.2⟩]
    · rw [if_neg h2, if_neg fun h3 => h2 ⟨by omega, h3.2⟩]





/-- The kink; is it the identity? -/
def kkL (t : List (List Int)) : List Int := tab t.length fun x => en t x x
def qdB (t : List (List Int)) : Bool := (List.range t.length).all fun x => decide (en t x x = (x : Int))

theorem kk_inc {t : List (List Int)} (h : tabB t = true) : incB (kkL t) = qdB t := by
  obtain ⟨n1, n2, ht⟩ := tabB_of h
  have hl : (kkL t).length = t.length := tab_length _ _
  have hr : rngB ((kkL t).length : Int) (kkL t) := fun x hx => by
    simp only [kkL, tab, List.mem_map, List.mem_range] at hx
    obtain ⟨i, hi, rfl⟩ := hx
    have := (ht i hi).2 i hi
    rw [hl]
    unfold en
    omega
  rw [inc_unit hr, hl, Bool.eq_iff_iff, decide_eq_true_iff, qdB, List.all_eq_true]
  constructor
  · intro e x hx
    rw [List.mem_range] at hx
    refine decide_eq_true ?_
    have : (kkL t).getD x 0 = (unitL t.length).getD x 0 := by rw [e]
    rwa [kkL, unitL, tab_getD _ _ _ hx, tab_getD _ _ _ hx] at this
  · intro e
    exact tab_ext fun x hx => of_decide_eq_true (e x (by simpa using hx))





/-- The answer of QuandleBoundary. -/
def qbC (t : List (List Int)) (p k : Int) (c : List Int) : List Int × Int :=
  if (rbC t p k c).2 = 0 then (if qdB t = true then (clrN t.length (k - 1) (rbC t p k c).1 (rbC t p k c).1.length, 0) else ([], 5)) else ([], (rbC t p k c).2)

theorem qbC_len (t : List (List Int)) (p k : Int) (c : List Int) : (qbC t p k c).1.length ≤ 512 := by
  unfold qbC
  split
  · split
    · simp only [clrN_length]; exact rbC_len t p k c
    · simp
  · simp

theorem qbC_no {t : List (List Int)} {p k : Int} {c : List Int} {z : Int} (h : (rbC t p k c).2 = z) (hz : z ≠ 0) : [] = (qbC t p k c).1 ∧ z = (qbC t p k c).2 := by
  rw [qbC, if_neg (by omega)]; exact ⟨rfl, h.symm⟩
theorem qbC_five {t : List (List Int)} {p k : Int} {c : List Int} (h : (rbC t p k c).2 = 0) (hq : qdB t = false) : [] = (qbC t p k c).1 ∧ 5 = (qbC t p k c).2 := by
  rw [qbC, if_pos h, if_neg (by rw [hq]; decide)]; exact ⟨rfl, rfl⟩
theorem qbC_yes {t : List (List Int)} {p k : Int} {c : List Int} (h : (rbC t p k c).2 = 0) (hq : qdB t = true) : clrN t.length (k - 1) (rbC t p k c).1 (rbC t p k c).1.length = (qbC t p k c).1 ∧ 0 = (qbC t p k c).2 := by
  rw [qbC, if_pos h, if_pos hq]; exact ⟨rfl, rfl⟩

theorem rbC_ok {t : List (List Int)} {p k : Int} {c : List Int} (h : (rbC t p k c).2 = 0) : chC t p k c = 0 ∧ k ≠ 0 := by
  unfold rbC at h
  split at h
  · rename_i e
    split at h
    · cases h
    · rename_i hk; exact ⟨e, hk⟩
  · rename_i e; exact absurd h e






end Go.Sx
