/- The plain law of CoboundarySource: where the reference meets a disagreement, no source is there. -/
import Derived.Test.YtegeohcghndpcaaSrc
import Derived.Test.YtegeohcghndpcaaMat
open Go Go.Proofs
namespace Go.Sx
set_option linter.unusedSimpArgs false
set_option linter.unusedVariables false

/-- The values once the first i places have been starts. -/
def srcN (t : List (List Int)) (m : Int) (f : List (List Int)) : Nat → List Int
  | 0 => List.replicate t.length (-1)
  | i + 1 => if 0 ≤ (srcN t m f i).getD i 0 then srcN t m f i else growF t m f ((srcN t m f i).set i 0)

/-- A disagreement of two values that are there. -/
def lkB (t : List (List Int)) (m : Int) (f : List (List Int)) (g : List Int) (x y : Nat) : Bool :=
  decide (0 ≤ g.getD y 0 ∧ 0 ≤ g.getD (en t x y).toNat 0 ∧ (g.getD y 0 + en f x y).tmod m ≠ g.getD (en t x y).toNat 0)

def rowK (t : List (List Int)) (m : Int) (f : List (List Int)) (x j : Nat) (g : List Int) : Bool := (List.range j).all fun y => !lkB t m f (rowG t m f x y g) x y
def passK (t : List (List Int)) (m : Int) (f : List (List Int)) (i : Nat) (g : List Int) : Bool := (List.range i).all fun x => rowK t m f x t.length (passG t m f x g)
def growK (t : List (List Int)) (m : Int) (f : List (List Int)) : Nat → List Int → Bool
  | 0, _ => true
  | k + 1, g => passK t m f t.length g && (if passG t m f t.length g = g then true else growK t m f k (passG t m f t.length g))
def growKF (t : List (List Int)) (m : Int) (f : List (List Int)) (g : List Int) : Bool := growK t m f (negs g + 1) g
def srcK (t : List (List Int)) (m : Int) (f : List (List Int)) : Nat → Bool
  | 0 => true
  | i + 1 => srcK t m f i && (if 0 ≤ (srcN t m f i).getD i 0 then true else growKF t m f ((srcN t m f i).set i 0))

theorem rowK_step (t : List (List Int)) (m : Int) (f : List (List Int)) (x j : Nat) (g : List Int) : rowK t m f x (j + 1) g = (rowK t m f x j g && !lkB t m f (rowG t m f x j g) x j) := by
  simp [rowK, List.range_succ]
theorem passK_step (t : List (List Int)) (m : Int) (f : List (List Int)) (i : Nat) (g : List Int) : passK t m f (i + 1) g = (passK t m f i g && rowK t m f i t.length (passG t m f i g)) := by
  simp [passK, List.range_succ]

theorem all_range_false {p : Nat → Bool} {i j : Nat} (h : i ≤ j) (e : (List.range i).all p = false) : (List.range j).all p = false := by
  rw [List.all_eq_false] at e ⊢
  obtain ⟨x, hx, hp⟩ := e
  exact ⟨x, by rw [List.mem_range] at *; omega, hp⟩

theorem rowK_bad {t : List (List Int)} {m : Int} {f : List (List Int)} {x j : Nat} {g : List Int} (hj : j < t.length) (h : lkB t m f (rowG t m f x j g) x j = true) : rowK t m f x t.length g = false :=
  all_range_false (i := j + 1) (by omega) (by have := rowK_step t m f x j g; unfold rowK at this; rw [this, h]; simp)
theorem passK_bad {t : List (List Int)} {m : Int} {f : List (List Int)} {i : Nat} {g : List Int} (hi : i < t.length) (h : rowK t m f i t.length (passG t m f i g) = false) : passK t m f t.length g = false :=
  all_range_false (i := i + 1) (by omega) (by have := passK_step t m f i g; unfold passK at this; rw [this, h]; simp)

theorem growK_fuel {t : List (List Int)} {m : Int} {f : List (List Int)} : ∀ {k l : Nat} {g : List Int}, Good t m f g → negs g < k → negs g < l → growK t m f k g = growK t m f l g
  | 0, _, _, _, h, _ => by omega
  | _ + 1, 0, _, _, _, h => by omega
  | k + 1, l + 1, g, h, hk, hl => by
    simp only [growK]
    obtain ⟨a, b⟩ := passG_good h t.length (Nat.le_refl _)
    congr 1
    split
    · rfl
    · rename_i hn
      have := b.resolve_left hn
      exact growK_fuel a (by omega) (by omega)

theorem growKF_step {t : List (List Int)} {m : Int} {f : List (List Int)} {g : List Int} (h : Good t m f g) :
    growKF t m f g = (passK t m f t.length g && (if passG t m f t.length g = g then true else growKF t m f (passG t m f t.length g))) := by
  obtain ⟨a, b⟩ := passG_good h t.length (Nat.le_refl _)
  conv => lhs; unfold growKF
  simp only [growK]
  congr 1
  split
  · rfl
  · rename_i hn
    exact growK_fuel a (b.resolve_left hn) (by omega)

/-- Values that are there stay. -/
def Stay (g h : List Int) : Prop := h.length = g.length ∧ ∀ k, k < g.length → 0 ≤ g.getD k 0 → h.getD k 0 = g.getD k 0

theorem Stay.refl (g : List Int) : Stay g g := ⟨rfl, fun _ _ _ => rfl⟩
theorem Stay.trans {a b c : List Int} (h : Stay a b) (k : Stay b c) : Stay a c := ⟨k.1.trans h.1, fun i hi h0 => by
  have := h.2 i hi h0
  rw [k.2 i (by rw [h.1]; exact hi) (by omega), this]⟩

theorem sg_stay (t : List (List Int)) (m : Int) (f : List (List Int)) (g : List Int) (x y : Nat) : Stay g (sg t m f g x y) :=
  ⟨sg_length t m f g x y, fun k hk h => sg_keep t m f g x y k hk h⟩

theorem rowG_stay (t : List (List Int)) (m : Int) (f : List (List Int)) (x : Nat) (g : List Int) (i : Nat) : ∀ j, Stay (rowG t m f x i g) (rowG t m f x (i + j) g)
  | 0 => Stay.refl _
  | j + 1 => by
    rw [← Nat.add_assoc, rowG_step]
    exact (rowG_stay t m f x g i j).trans (sg_stay _ _ _ _ _ _)

theorem passG_stay (t : List (List Int)) (m : Int) (f : List (List Int)) (g : List Int) (i : Nat) : ∀ j, Stay (passG t m f i g) (passG t m f (i + j) g)
  | 0 => Stay.refl _
  | j + 1 => by
    rw [← Nat.add_assoc, passG_step]
    refine (passG_stay t m f g i j).trans ?_
    have := rowG_stay t m f (i + j) (passG t m f (i + j) g) 0 t.length
    rwa [Nat.zero_add] at this

theorem passG_stay0 (t : List (List Int)) (m : Int) (f : List (List Int)) (g : List Int) (i : Nat) : Stay g (passG t m f i g) := by
  have := passG_stay t m f g 0 i
  rwa [Nat.zero_add] at this

theorem growG_stay (t : List (List Int)) (m : Int) (f : List (List Int)) : ∀ (k : Nat) (g : List Int), Stay g (growG t m f k g)
  | 0, g => Stay.refl _
  | k + 1, g => by
    simp only [growG]
    split
    · exact Stay.refl _
    · exact (passG_stay0 t m f g _).trans (growG_stay t m f k _)

theorem growG_good {t : List (List Int)} {m : Int} {f : List (List Int)} : ∀ (k : Nat) {g : List Int}, Good t m f g → Good t m f (growG t m f k g)
  | 0, g, h => h
  | k + 1, g, h => by
    simp only [growG]
    split
    · exact h
    · exact growG_good k (passG_good h _ (Nat.le_refl _)).1

theorem set0_good {t : List (List Int)} {m : Int} {f : List (List Int)} {g : List Int} (h : Good t m f g) (s : Nat) : Good t m f (g.set s 0) :=
  ⟨h.tab, h.mat, valB_set h.val (by have := (matB_of h.mat).1; omega), by rw [List.length_set, h.len]⟩

theorem srcN_good {t : List (List Int)} {m : Int} {f : List (List Int)} (h1 : tabB t = true) (h2 : matB (t.length : Int) m f = true) : ∀ i, Good t m f (srcN t m f i)
  | 0 => ⟨h1, h2, fun k hk => by
      have := (matB_of h2).1
      simp only [srcN, List.length_replicate] at hk ⊢
      simp [List.getD_eq_getElem?_getD, hk]; omega, by simp [srcN]⟩
  | i + 1 => by
    simp only [srcN]
    split
    · exact srcN_good h1 h2 i
    · exact growG_good _ (set0_good (srcN_good h1 h2 i) i)

theorem set0_stay {g : List Int} {s : Nat} (h : g.getD s 0 < 0) : Stay g (g.set s 0) := ⟨by simp, fun k hk h0 => by
  rw [getD_set _ _ _ _ hk, if_neg]
  rintro rfl
  omega⟩

theorem srcN_stay1 (t : List (List Int)) (m : Int) (f : List (List Int)) (i : Nat) : Stay (srcN t m f i) (srcN t m f (i + 1)) := by
  simp only [srcN]
  split
  · exact Stay.refl _
  · rename_i h
    exact (set0_stay (by omega)).trans (growG_stay _ _ _ _ _)

theorem srcN_stay (t : List (List Int)) (m : Int) (f : List (List Int)) (i : Nat) : ∀ j, Stay (srcN t m f i) (srcN t m f (i + j))
  | 0 => Stay.refl _
  | j + 1 => (srcN_stay t m f i j).trans (srcN_stay1 t m f (i + j))

theorem srcN_set {t : List (List Int)} {m : Int} {f : List (List Int)} (h1 : tabB t = true) (h2 : matB (t.length : Int) m f = true) (i : Nat) (hi : i < t.length) : 0 ≤ (srcN t m f t.length).getD i 0 := by
  have g := srcN_good h1 h2 i
  have a : 0 ≤ (srcN t m f (i + 1)).getD i 0 := by
    simp only [srcN]
    split
    · assumption
    · have e : ((srcN t m f i).set i 0).getD i 0 = 0 := by rw [getD_set _ _ _ _ (by rw [g.len]; exact hi), if_pos rfl]
      have := (growG_stay t m f (negs ((srcN t m f i).set i 0) + 1) ((srcN t m f i).set i 0)).2 i (by rw [List.length_set, g.len]; exact hi) (by omega)
      unfold growF
      omega
  have b := srcN_stay t m f (i + 1) (t.length - (i + 1))
  rw [show i + 1 + (t.length - (i + 1)) = t.length by omega] at b
  have := b.2 i (by rw [(srcN_good h1 h2 (i + 1)).len]; exact hi) a
  omega

theorem srcN_shift {t : List (List Int)} {m : Int} {f : List (List Int)} (h1 : tabB t = true) (h2 : matB (t.length : Int) m f = true) : shiftB (t.length : Int) m (srcN t m f t.length) = true := by
  have g := srcN_good h1 h2 t.length
  have e := (matB_of h2)
  simp only [shiftB, numsB, Bool.and_eq_true, decide_eq_true_eq]
  refine ⟨⟨e.1, e.2.1⟩, ?_, by rw [g.len]⟩
  rw [allW, List.all_eq_true]
  intro x hx
  obtain ⟨k, hk, rfl⟩ := List.getElem_of_mem hx
  have v := g.val k hk
  have n := srcN_set h1 h2 k (by rw [← g.len]; exact hk)
  rw [List.getD_eq_getElem?_getD, List.getElem?_eq_getElem hk] at v n
  simp only [Option.getD_some] at v n
  simp only [decide_eq_true_eq]
  omega

/-- Where a disagreement is met, it stays to the end. -/
theorem growK_false {t : List (List Int)} {m : Int} {f : List (List Int)} : ∀ (k : Nat) {g : List Int}, Good t m f g → growK t m f k g = false →
    ∃ h x y, x < t.length ∧ y < t.length ∧ Good t m f h ∧ lkB t m f h x y = true ∧ Stay h (growG t m f k g)
  | 0, g, _, h => by cases h
  | k + 1, g, hg, h => by
    simp only [growK, Bool.and_eq_false_iff] at h
    have last : Stay (passG t m f t.length g) (growG t m f (k + 1) g) := by
      simp only [growG]
      split
      · rename_i e; rw [e]; exact Stay.refl _
      · exact growG_stay _ _ _ _ _
    rcases h with h | h
    · rw [passK, List.all_eq_false] at h
      obtain ⟨x, hx, h⟩ := h
      rw [List.mem_range] at hx
      rw [Bool.not_eq_true, rowK, List.all_eq_false] at h
      obtain ⟨y, hy, h⟩ := h
      rw [List.mem_range] at hy
      refine ⟨rowG t m f x y (passG t m f x g), x, y, hx, hy, (rowG_good (passG_good hg x (by omega)).1 x hx y (by omega)).1, by simpa using h, ?_⟩
      have a := rowG_stay t m f x (passG t m f x g) y (t.length - y)
      rw [show y + (t.length - y) = t.length by omega, ← passG_step] at a
      have b := passG_stay t m f g (x + 1) (t.length - (x + 1))
      rw [show x + 1 + (t.length - (x + 1)) = t.length by omega] at b
      exact (a.trans b).trans last
    · split at h
      · cases h
      · rename_i hn
        obtain ⟨w, x, y, hx, hy, hw, hl, hs⟩ := growK_false k (passG_good hg _ (Nat.le_refl _)).1 h
        refine ⟨w, x, y, hx, hy, hw, hl, ?_⟩
        simp only [growG, if_neg hn]
        exact hs

theorem srcK_false {t : List (List Int)} {m : Int} {f : List (List Int)} (h1 : tabB t = true) (h2 : matB (t.length : Int) m f = true) : ∀ (i : Nat), srcK t m f i = false →
    ∃ h x y, x < t.length ∧ y < t.length ∧ Good t m f h ∧ lkB t m f h x y = true ∧ Stay h (srcN t m f i)
  | 0, h => by cases h
  | i + 1, h => by
    simp only [srcK, Bool.and_eq_false_iff] at h
    rcases h with h | h
    · obtain ⟨w, x, y, hx, hy, hw, hl, hs⟩ := srcK_false h1 h2 i h
      exact ⟨w, x, y, hx, hy, hw, hl, hs.trans (srcN_stay1 t m f i)⟩
    · split at h
      · cases h
      · rename_i hn
        obtain ⟨w, x, y, hx, hy, hw, hl, hs⟩ := growK_false _ (set0_good (srcN_good h1 h2 i) i) h
        refine ⟨w, x, y, hx, hy, hw, hl, ?_⟩
        simp only [srcN, if_neg hn]
        exact hs

theorem srcK_not {t : List (List Int)} {m : Int} {f : List (List Int)} (h1 : tabB t = true) (h2 : matB (t.length : Int) m f = true) {i : Nat} (hi : i ≤ t.length) (h : srcK t m f i = false) :
    tabR t.length (cbF t m (srcN t m f t.length)) ≠ f := by
  intro e
  obtain ⟨w, x, y, hx, hy, hw, hl, hs⟩ := srcK_false h1 h2 i h
  have b := srcN_stay t m f i (t.length - i)
  rw [show i + (t.length - i) = t.length by omega] at b
  have s := hs.trans b
  have G := srcN_good h1 h2 t.length
  obtain ⟨n1, n2, ht⟩ := tabB_of h1
  obtain ⟨m1, m2, m3, hf⟩ := matB_of h2
  have a := (ht x hx).2 y hy
  simp only [lkB, decide_eq_true_eq] at hl
  obtain ⟨l1, l2, l3⟩ := hl
  have hz : (en t x y).toNat < w.length := by rw [hw.len]; unfold en; omega
  have s1 := s.2 y (by rw [hw.len]; exact hy) l1
  have s2 := s.2 (en t x y).toNat hz l2
  have v1 := hw.val y (by rw [hw.len]; exact hy)
  have v2 := hw.val _ hz
  have ef : en f x y = cbF t m (srcN t m f t.length) x y := by
    conv => lhs; rw [← e]
    unfold en
    rw [tabR_getD _ _ _ hx, tab_getD _ _ _ hy]
  apply l3
  rw [ef, cbF]
  rw [show ((t.getD x []).getD y 0) = en t x y from rfl, s1, s2]
  by_cases c : w.getD y 0 ≤ w.getD (en t x y).toNat 0
  · have e1 : (w.getD (en t x y).toNat 0 - w.getD y 0 + m).tmod m = w.getD (en t x y).toNat 0 - w.getD y 0 := by
      rw [Int.tmod_eq_emod_of_nonneg (by omega), Int.add_emod_right, Int.emod_eq_of_lt (by omega) (by omega)]
    rw [e1, show w.getD y 0 + (w.getD (en t x y).toNat 0 - w.getD y 0) = w.getD (en t x y).toNat 0 by omega, Int.tmod_eq_emod_of_nonneg (by omega), Int.emod_eq_of_lt (by omega) (by omega)]
  · have e1 : (w.getD (en t x y).toNat 0 - w.getD y 0 + m).tmod m = w.getD (en t x y).toNat 0 - w.getD y 0 + m := by
      rw [Int.tmod_eq_emod_of_nonneg (by omega), Int.emod_eq_of_lt (by omega) (by omega)]
    rw [e1, show w.getD y 0 + (w.getD (en t x y).toNat 0 - w.getD y 0 + m) = w.getD (en t x y).toNat 0 + m by omega, Int.tmod_eq_emod_of_nonneg (by omega), Int.add_emod_right, Int.emod_eq_of_lt (by omega) (by omega)]

end Go.Sx

