/- Plain laws on lists and numbers that the functions' conditions lean on. -/
import Derived.Test.YtjkbnanffneogaaSxY
namespace Go.Sx

theorem BrP_iff {b : Bool} {A B : Prop} : BrP b A B ↔ (b = true → A) ∧ (b = false → B) := by cases b <;> simp [BrP]

theorem fill_step {α : Type} (f : List α) (z d : α) (i : Nat) (h : i < f.length) :
    (f.take i ++ List.replicate (f.length - i) z).set i (f.getD i d) = f.take (i + 1) ++ List.replicate (f.length - (i + 1)) z := by
  apply List.ext_getElem?
  intro j
  simp only [List.getElem?_set, List.getElem?_append, List.length_append, List.length_take, List.length_replicate, List.getElem?_take, List.getElem?_replicate, List.getD_eq_getElem?_getD]
  by_cases h1 : i = j
  · subst h1
    have : i < min i f.length + (f.length - i) := by omega
    simp only [if_true, this]
    have h2 : i < min (i + 1) f.length := by omega
    simp [h2, List.getElem?_eq_getElem h]
  · simp only [h1, if_false]
    by_cases h3 : j < i
    · have a : j < min i f.length := by omega
      have b : j < min (i + 1) f.length := by omega
      have c : j < i + 1 := by omega
      simp [a, b, h3, c]
    · have a : ¬ j < min i f.length := by omega
      have b : ¬ j < min (i + 1) f.length := by omega
      simp only [a, b, if_false]
      have : (j - min i f.length < f.length - i) ↔ (j - min (i + 1) f.length < f.length - (i + 1)) := by omega
      simp [this]

theorem fill_start {α : Type} (f : List α) (z : α) (n : Nat) (h : f.length = n) : List.replicate n z = f.take 0 ++ List.replicate (f.length - 0) z := by
  simp [h]

theorem fill_end {α : Type} (f : List α) (z : α) (i : Nat) (h : f.length ≤ i) : f.take i ++ List.replicate (f.length - i) z = f := by
  rw [List.take_of_length_le h, Nat.sub_eq_zero_of_le h]
  simp

theorem take_snoc {α : Type} (f : List α) (d : α) (i : Nat) (h : i < f.length) : f.take i ++ [f.getD i d] = f.take (i + 1) := by
  rw [List.take_add_one, List.getD_eq_getElem?_getD, List.getElem?_eq_getElem h]
  rfl

theorem getD_lt {α : Type} (f : List α) (d : α) (i : Nat) (h : i < f.length) : f.getD i d = f[i] := by
  simp [List.getD_eq_getElem?_getD, List.getElem?_eq_getElem h]

theorem getD_map {α β : Type} (l : List α) (f : α → β) (d : α) (e : β) (i : Nat) (h : i < l.length) : (l.map f).getD i e = f (l.getD i d) := by
  simp [List.getD_eq_getElem?_getD, List.getElem?_eq_getElem h]

theorem take_eq_step {α : Type} (a b : List α) (d : α) (i : Nat) (ha : i < a.length) (hb : i < b.length) (h : a.take i = b.take i) :
    a.take (i + 1) = b.take (i + 1) ↔ a.getD i d = b.getD i d := by
  rw [← take_snoc a d i ha, ← take_snoc b d i hb, h]
  simp

/-- The numbers k, k + 1, .. -/
def markL (k : Int) (n : Nat) : List Int := (List.range n).map fun i : Nat => k + (i : Int)

theorem markL_length (k : Int) (n : Nat) : (markL k n).length = n := by simp [markL]

theorem markL_getD (k : Int) (n i : Nat) (h : i < n) : (markL k n).getD i 0 = k + (i : Int) := by
  simp [markL, List.getD_eq_getElem?_getD, h]

theorem set_take_drop {α : Type} (f l : List α) (d : α) (i : Nat) (hf : f.length = l.length) (h : i < l.length) :
    (f.take i ++ l.drop i).set i (f.getD i d) = f.take (i + 1) ++ l.drop (i + 1) := by
  apply List.ext_getElem?
  intro j
  simp only [List.getElem?_set, List.getElem?_append, List.length_append, List.length_take, List.length_drop, List.getElem?_take, List.getElem?_drop, List.getD_eq_getElem?_getD]
  by_cases h1 : i = j
  · subst h1
    have : i < min i f.length + (l.length - i) := by omega
    simp only [if_true, this]
    have h2 : i < min (i + 1) f.length := by omega
    simp [h2, List.getElem?_eq_getElem (show i < f.length by omega)]
  · simp only [h1, if_false]
    by_cases h3 : j < i
    · have a : j < min i f.length := by omega
      have b : j < min (i + 1) f.length := by omega
      have c : j < i + 1 := by omega
      simp [a, b, h3, c]
    · have a : ¬ j < min i f.length := by omega
      have b : ¬ j < min (i + 1) f.length := by omega
      simp only [a, b, if_false]
      have : i + (j - min i f.length) = i + 1 + (j - min (i + 1) f.length) := by omega
      rw [this]

theorem getD_append_right' {α : Type} (a b : List α) (d : α) (i : Nat) (h : a.length ≤ i) : (a ++ b).getD i d = b.getD (i - a.length) d := by
  simp [List.getD_eq_getElem?_getD, List.getElem?_append_right h]

theorem getD_append_left' {α : Type} (a b : List α) (d : α) (i : Nat) (h : i < a.length) : (a ++ b).getD i d = a.getD i d := by
  simp [List.getD_eq_getElem?_getD, List.getElem?_append_left h]

theorem drop_cons' {α : Type} (l : List α) (d : α) (i : Nat) (h : i < l.length) : l.drop i = l.getD i d :: l.drop (i + 1) := by
  rw [getD_lt l d i h]
  exact List.drop_eq_getElem_cons h

theorem all_drop {l : List Int} (p : Int → Bool) {i : Nat} (h : i < l.length) : (l.drop i).all p = (p (l.getD i 0) && (l.drop (i + 1)).all p) := by
  rw [drop_cons' l 0 i h]
  rfl

theorem getD_mem {α : Type} (l : List α) (d : α) (i : Nat) (h : i < l.length) : l.getD i d ∈ l := by
  rw [getD_lt l d i h]
  exact List.getElem_mem h

theorem wrapIn {n : Int} (h : -9223372036854775808 ≤ n ∧ n ≤ 9223372036854775807) : IntKind.i64.wrap n = n := IntWalk.i64_in n h

/-- The list f 0, f 1, .. -/
def tab (n : Nat) (f : Nat → Int) : List Int := (List.range n).map f

theorem tab_length (n : Nat) (f : Nat → Int) : (tab n f).length = n := by simp [tab]

theorem tab_getD (n : Nat) (f : Nat → Int) (i : Nat) (h : i < n) : (tab n f).getD i 0 = f i := by
  simp [tab, List.getD_eq_getElem?_getD, h]

theorem tab_ext {n : Nat} {f g : Nat → Int} (h : ∀ i, i < n → f i = g i) : tab n f = tab n g := by
  apply List.map_congr_left
  intro i hi
  exact h i (List.mem_range.1 hi)

theorem tab_set (n : Nat) (f : Nat → Int) (a : Nat) (v : Int) : (tab n f).set a v = tab n (fun t => if t = a then v else f t) := by
  apply List.ext_getElem?
  intro j
  simp only [tab, List.getElem?_set, List.getElem?_map, List.length_map, List.length_range]
  by_cases hj : j < n
  · by_cases ha : a = j
    · subst ha; simp [hj]
    · simp [ha, hj, Ne.symm ha]
  · by_cases ha : a = j
    · subst ha; simp [hj]
    · simp [ha, hj]

theorem eq_tab (l : List Int) : l = tab l.length fun i => l.getD i 0 := by
  apply List.ext_getElem?
  intro j
  by_cases hj : j < l.length
  · simp [tab, hj]
  · simp [tab, hj]

theorem list_ext {a b : List Int} (hl : a.length = b.length) (h : ∀ i, i < a.length → a.getD i 0 = b.getD i 0) : a = b := by
  rw [eq_tab a, eq_tab b, ← hl]
  exact tab_ext h

theorem getD_set (l : List Int) (a i : Nat) (v : Int) (h : i < l.length) : (l.set a v).getD i 0 = if i = a then v else l.getD i 0 := by
  simp only [List.getD_eq_getElem?_getD, List.getElem?_set]
  by_cases ha : a = i
  · subst ha; simp [h]
  · simp [ha, Ne.symm ha]

theorem mem_set {l : List Int} {a : Nat} {v x : Int} (h : x ∈ l.set a v) : x ∈ l ∨ x = v := List.mem_or_eq_of_mem_set h

theorem take_getD {α : Type} (l : List α) (d : α) (n i : Nat) (h : i < n) : (l.take n).getD i d = l.getD i d := by
  simp [List.getD_eq_getElem?_getD, h]

theorem drop_getD {α : Type} (l : List α) (d : α) (n i : Nat) : (l.drop n).getD i d = l.getD (n + i) d := by
  simp [List.getD_eq_getElem?_getD]

end Go.Sx
