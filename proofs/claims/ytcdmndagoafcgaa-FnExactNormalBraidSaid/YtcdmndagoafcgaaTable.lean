/- Table -/
import Derived.Test.YtcdmndagoafcgaaLists
open Go Go.Proofs
namespace Go.Sx
set_option linter.unusedSimpArgs false
set_option linter.unusedVariables false

theorem allG_drop {α : Type} {l : List α} (d : α) (p : α → Bool) {i : Nat} (h : i < l.length) : (l.drop i).all p = (p (l.getD i d) && (l.drop (i + 1)).all p) := by
  rw [drop_cons' l d i h]; rfl

theorem allG_get {α : Type} {l : List α} (d : α) {p : α → Bool} (h : l.all p = true) (i : Nat) (hi : i < l.length) : p (l.getD i d) = true :=
  List.all_eq_true.1 h _ (getD_mem l d i hi)

theorem at_getD {α : Type} (a b : List α) (r d : α) (i : Nat) (h : a.length = i) : (a ++ r :: b).getD i d = r := by
  rw [getD_append_right' _ _ _ _ (by omega), h, Nat.sub_self]; rfl

theorem at_set {α : Type} (a b : List α) (r v : α) (i : Nat) (h : a.length = i) : (a ++ r :: b).set i v = a ++ v :: b := by
  rw [List.set_append_right _ _ (by omega), h, Nat.sub_self]; rfl

def rowB (n : Int) (r : List Int) : Bool := decide ((r.length : Int) = n) && allW 0 (n - 1) r
def tabB (t : List (List Int)) : Bool := decide (1 ≤ (t.length : Int) ∧ (t.length : Int) ≤ 12) && t.all (rowB (t.length : Int))

theorem rowB_of {n : Int} {r : List Int} (h : rowB n r = true) : (r.length : Int) = n ∧ allW 0 (n - 1) r = true := by
  simpa [rowB] using h

/-- What an entry of a table needs. -/
theorem tabB_of {t : List (List Int)} (h : tabB t = true) : 1 ≤ t.length ∧ t.length ≤ 12 ∧
    ∀ x, x < t.length → (t.getD x []).length = t.length ∧ ∀ y, y < t.length → 0 ≤ (t.getD x []).getD y 0 ∧ (t.getD x []).getD y 0 ≤ (t.length : Int) - 1 := by
  simp only [tabB, Bool.and_eq_true, decide_eq_true_eq] at h
  refine ⟨by omega, by omega, fun x hx => ?_⟩
  obtain ⟨h1, h2⟩ := rowB_of (allG_get [] h.2 x hx)
  exact ⟨by omega, fun y hy => allW_get h2 y (by omega)⟩

theorem tabB_no {t : List (List Int)} (h : ¬ (1 ≤ (t.length : Int) ∧ (t.length : Int) ≤ 12)) : tabB t = false := by simp only [tabB, decide_eq_false h, Bool.false_and]



def idxG (p : List Int → Bool) : List (List Int) → Int → Int
  | [], _ => -1
  | x :: l, k => if p x = true then k else idxG p l (k + 1)

theorem idxG_any (p : List Int → Bool) : ∀ (l : List (List Int)) (k : Int), 0 ≤ k → decide (0 ≤ idxG p l k) = l.any p
  | [], k, _ => rfl
  | x :: l, k, h => by
    simp only [idxG, List.any_cons]
    by_cases hp : p x = true
    · simp [hp, h]
    · simpa [hp] using idxG_any p l (k + 1) (by omega)









def numsB (n m : Int) (g : List Int) : Bool := allW 0 (m - 1) g && decide ((g.length : Int) = n)


def shiftB (n m : Int) (g : List Int) : Bool := decide (1 ≤ m ∧ m ≤ 12) && numsB n m g

theorem shiftB_of {n m : Int} {g : List Int} (h : shiftB n m g = true) : 1 ≤ m ∧ m ≤ 12 ∧ (g.length : Int) = n ∧ ∀ y, y < g.length → 0 ≤ g.getD y 0 ∧ g.getD y 0 ≤ m - 1 := by
  simp only [shiftB, numsB, Bool.and_eq_true, decide_eq_true_eq] at h
  exact ⟨by omega, by omega, by omega, fun y hy => allW_get h.2.1 y hy⟩


def tabR (n : Nat) (f : Nat → Nat → Int) : List (List Int) := (List.range n).map fun x => tab n (f x)

theorem tabR_length (n : Nat) (f : Nat → Nat → Int) : (tabR n f).length = n := by simp [tabR]
theorem tabR_getD (n : Nat) (f : Nat → Nat → Int) (x : Nat) (h : x < n) : (tabR n f).getD x [] = tab n (f x) := by
  simp [tabR, List.getD_eq_getElem?_getD, h]



/-- An entry of a table by a matrix of numbers. -/
theorem tmod_in {a m : Int} (h : 0 ≤ a) (hm : 1 ≤ m) : 0 ≤ a.tmod m ∧ a.tmod m ≤ m - 1 := by
  rw [Int.tmod_eq_emod_of_nonneg h]
  have h1 := Int.emod_nonneg a (show m ≠ 0 by omega)
  have h2 := Int.emod_lt_of_pos a (show 0 < m by omega)
  omega

theorem list2_ext {a b : List (List Int)} (hl : a.length = b.length) (h : ∀ i, i < a.length → a.getD i [] = b.getD i []) : a = b := by
  apply List.ext_getElem hl
  intro i h1 h2
  have := h i h1
  rwa [getD_lt a [] i h1, getD_lt b [] i h2] at this

theorem tabR_ext {n : Nat} {f g : Nat → Nat → Int} (h : ∀ x y, x < n → y < n → f x y = g x y) : tabR n f = tabR n g := by
  unfold tabR
  apply List.map_congr_left
  intro x hx
  exact tab_ext fun y hy => h x y (List.mem_range.1 hx) hy

theorem tabR_room (n : Nat) (f : Nat → Nat → Int) (h : n ≤ 144) : roomR (tabR n f) := ⟨by rw [tabR_length]; omega, fun r hr => by
  simp only [tabR, List.mem_map] at hr
  obtain ⟨x, _, rfl⟩ := hr
  rw [tab_length]; omega⟩

theorem tabR_sum (n : Nat) (f : Nat → Nat → Int) (h : n ≤ 144) : sumL (tabR n f) ≤ 20736 := by
  have e : sumL (tabR n f) = n * n := by
    have : (tabR n f).map List.length = List.replicate n n := by
      apply List.ext_getElem
      · simp [tabR]
      · intro i h1 h2
        simp [tabR, tab_length]
    rw [sumL, this]
    simp
  rw [e]
  exact Nat.le_trans (Nat.mul_le_mul h h) (by omega)

end Go.Sx
