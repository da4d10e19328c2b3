/- RchP -/
import Derived.Test.YtcfbmimjffkgdaaCocP
import Derived.Test.YtcfbmimjffkgdaaDrawC
import Derived.Test.YtcfbmimjffkgdaaRxtP
open Go Go.Proofs
namespace Go.Sx
set_option linter.unusedSimpArgs false
set_option linter.unusedVariables false

def d0 (i : Nat) (x : List Int) : List Int := wo i x
def d1 (t : List (List Int)) (i : Nat) (x : List Int) : List Int := mvk t (x.getD i 0) i (x.length - 1) (wo i x)

theorem d0_tab {i : Nat} {x : List Int} (hi : i < x.length) : d0 i x = tab (x.length - 1) fun q => if q < i then x.getD q 0 else x.getD (q + 1) 0 := by
  have hl : (wo i x).length = x.length - 1 := wo_length i x hi
  rw [d0, eq_tab (wo i x), hl]
  refine tab_ext fun q hq => ?_
  unfold wo
  by_cases h : q < i
  · rw [if_pos h, getD_append_left' _ _ _ _ (by simp; omega), take_getD _ _ _ _ h]
  · rw [if_neg h, getD_append_right' _ _ _ _ (by simp; omega), drop_getD]
    congr 1
    rw [List.length_take]; omega

theorem d1_tab {t : List (List Int)} {i : Nat} {x : List Int} (hi : i < x.length) : d1 t i x = tab (x.length - 1) fun q => if q < i then x.getD q 0 else en t (x.getD i 0).toNat (x.getD (q + 1) 0).toNat := by
  have hl : (wo i x).length = x.length - 1 := wo_length i x hi
  rw [d1, mvk, hl]
  refine tab_ext fun q hq => ?_
  have e : (wo i x).getD q 0 = if q < i then x.getD q 0 else x.getD (q + 1) 0 := by
    have e := d0_tab hi
    rw [d0] at e
    rw [e, tab_getD _ _ _ hq]
  by_cases h : q < i
  · rw [if_neg (by omega), if_pos h, e, if_pos h]
  · rw [if_pos (by omega), if_neg h, e, if_neg h]

theorem d0_len {i : Nat} {x : List Int} (hi : i < x.length) : (d0 i x).length = x.length - 1 := by rw [d0_tab hi, tab_length]
theorem d1_len {t : List (List Int)} {i : Nat} {x : List Int} (hi : i < x.length) : (d1 t i x).length = x.length - 1 := by rw [d1_tab hi, tab_length]
theorem d0_get {i q : Nat} {x : List Int} (hi : i < x.length) (hq : q < x.length - 1) : (d0 i x).getD q 0 = if q < i then x.getD q 0 else x.getD (q + 1) 0 := by rw [d0_tab hi, tab_getD _ _ _ hq]
theorem d1_get {t : List (List Int)} {i q : Nat} {x : List Int} (hi : i < x.length) (hq : q < x.length - 1) : (d1 t i x).getD q 0 = if q < i then x.getD q 0 else en t (x.getD i 0).toNat (x.getD (q + 1) 0).toNat := by rw [d1_tab hi, tab_getD _ _ _ hq]

theorem d0_in {n i : Nat} {x : List Int} (hx : inT n x) (hi : i < x.length) : inT n (d0 i x) := wo_in hx hi
theorem d1_in {t : List (List Int)} (ht : tabB t = true) {i : Nat} {x : List Int} (hx : inT t.length x) (hi : i < x.length) : inT t.length (d1 t i x) := mvk_in ht (wo_in hx hi) (hx i hi) _ _

theorem ls_ext {a b : List Int} (hl : a.length = b.length) (h : ∀ q, q < a.length → a.getD q 0 = b.getD q 0) : a = b := list_ext hl h

section
variable {t : List (List Int)} {x : List Int} {i j : Nat}

theorem dd_a (hij : i < j) (hj : j < x.length) : d0 (i) (d0 (j) x) = d0 (j - 1) (d0 (i) x) := by
  have l1 : (d0 (j) x).length = x.length - 1 := d0_len hj
  have l2 : (d0 (i) x).length = x.length - 1 := d0_len (by omega)
  have k1 : (d0 (i) (d0 (j) x)).length = x.length - 1 - 1 := (d0_len (by omega)).trans (by omega)
  have k2 : (d0 (j - 1) (d0 (i) x)).length = x.length - 1 - 1 := (d0_len (by omega)).trans (by omega)
  refine ls_ext (by omega) fun q hq => ?_
  rw [k1] at hq
  have L : (d0 (i) (d0 (j) x)).getD q 0 = if q < i then (d0 (j) x).getD (q) 0 else (d0 (j) x).getD (q + 1) 0 := d0_get (by omega) (by omega)
  have R : (d0 (j - 1) (d0 (i) x)).getD q 0 = if q < (j - 1) then (d0 (i) x).getD (q) 0 else (d0 (i) x).getD (q + 1) 0 := d0_get (by omega) (by omega)
  have A1 : (d0 (j) x).getD q 0 = if q < j then x.getD (q) 0 else x.getD (q + 1) 0 := d0_get hj (by omega)
  have A2 : (d0 (j) x).getD (q + 1) 0 = if (q + 1) < j then x.getD ((q + 1)) 0 else x.getD ((q + 1) + 1) 0 := d0_get hj (by omega)
  have B1 : (d0 (i) x).getD q 0 = if q < i then x.getD (q) 0 else x.getD (q + 1) 0 := d0_get (by omega) (by omega)
  have B2 : (d0 (i) x).getD (q + 1) 0 = if (q + 1) < i then x.getD ((q + 1)) 0 else x.getD ((q + 1) + 1) 0 := d0_get (by omega) (by omega)
  rw [L, R]
  by_cases a : q < i
  · rw [if_pos a, if_pos (show q < j - 1 by omega), A1, B1, if_pos (show q < j by omega), if_pos a]
  · by_cases b : q < j - 1
    · rw [if_neg a, if_pos b, A2, B1, if_pos (show q + 1 < j by omega), if_neg a]
    · rw [if_neg a, if_neg b, A2, B2, if_neg (show ¬ q + 1 < j by omega), if_neg (show ¬ q + 1 < i by omega)]

theorem dd_b (hij : i < j) (hj : j < x.length) : d0 (i) (d1 t (j) x) = d1 t (j - 1) (d0 (i) x) := by
  have l1 : (d1 t (j) x).length = x.length - 1 := d1_len hj
  have l2 : (d0 (i) x).length = x.length - 1 := d0_len (by omega)
  have k1 : (d0 (i) (d1 t (j) x)).length = x.length - 1 - 1 := (d0_len (by omega)).trans (by omega)
  have k2 : (d1 t (j - 1) (d0 (i) x)).length = x.length - 1 - 1 := (d1_len (by omega)).trans (by omega)
  refine ls_ext (by omega) fun q hq => ?_
  rw [k1] at hq
  have L : (d0 (i) (d1 t (j) x)).getD q 0 = if q < i then (d1 t (j) x).getD (q) 0 else (d1 t (j) x).getD (q + 1) 0 := d0_get (by omega) (by omega)
  have R : (d1 t (j - 1) (d0 (i) x)).getD q 0 = if q < (j - 1) then (d0 (i) x).getD (q) 0 else en t ((d0 (i) x).getD ((j - 1)) 0).toNat ((d0 (i) x).getD (q + 1) 0).toNat := d1_get (by omega) (by omega)
  have A1 : (d1 t (j) x).getD q 0 = if q < j then x.getD (q) 0 else en t (x.getD (j) 0).toNat (x.getD (q + 1) 0).toNat := d1_get hj (by omega)
  have A2 : (d1 t (j) x).getD (q + 1) 0 = if (q + 1) < j then x.getD ((q + 1)) 0 else en t (x.getD (j) 0).toNat (x.getD ((q + 1) + 1) 0).toNat := d1_get hj (by omega)
  have B1 : (d0 (i) x).getD q 0 = if q < i then x.getD (q) 0 else x.getD (q + 1) 0 := d0_get (by omega) (by omega)
  have B2 : (d0 (i) x).getD (q + 1) 0 = if (q + 1) < i then x.getD ((q + 1)) 0 else x.getD ((q + 1) + 1) 0 := d0_get (by omega) (by omega)
  have G2 : (d0 (i) x).getD (j - 1) 0 = x.getD j 0 := by
    have := (d0_get (i := i) (x := x) (q := j - 1) (by omega) (by omega)).trans (if_neg (by omega))
    rwa [show j - 1 + 1 = j by omega] at this
  rw [L, R]
  by_cases a : q < i
  · rw [if_pos a, if_pos (show q < j - 1 by omega), A1, B1, if_pos (show q < j by omega), if_pos a]
  · by_cases b : q < j - 1
    · rw [if_neg a, if_pos b, A2, B1, if_pos (show q + 1 < j by omega), if_neg a]
    · rw [if_neg a, if_neg b, G2, A2, B2, if_neg (show ¬ q + 1 < j by omega), if_neg (show ¬ q + 1 < i by omega)]

theorem dd_c (hij : i < j) (hj : j < x.length) : d1 t (i) (d0 (j) x) = d0 (j - 1) (d1 t (i) x) := by
  have l1 : (d0 (j) x).length = x.length - 1 := d0_len hj
  have l2 : (d1 t (i) x).length = x.length - 1 := d1_len (by omega)
  have k1 : (d1 t (i) (d0 (j) x)).length = x.length - 1 - 1 := (d1_len (by omega)).trans (by omega)
  have k2 : (d0 (j - 1) (d1 t (i) x)).length = x.length - 1 - 1 := (d0_len (by omega)).trans (by omega)
  refine ls_ext (by omega) fun q hq => ?_
  rw [k1] at hq
  have L : (d1 t (i) (d0 (j) x)).getD q 0 = if q < i then (d0 (j) x).getD (q) 0 else en t ((d0 (j) x).getD (i) 0).toNat ((d0 (j) x).getD (q + 1) 0).toNat := d1_get (by omega) (by omega)
  have R : (d0 (j - 1) (d1 t (i) x)).getD q 0 = if q < (j - 1) then (d1 t (i) x).getD (q) 0 else (d1 t (i) x).getD (q + 1) 0 := d0_get (by omega) (by omega)
  have A1 : (d0 (j) x).getD q 0 = if q < j then x.getD (q) 0 else x.getD (q + 1) 0 := d0_get hj (by omega)
  have A2 : (d0 (j) x).getD (q + 1) 0 = if (q + 1) < j then x.getD ((q + 1)) 0 else x.getD ((q + 1) + 1) 0 := d0_get hj (by omega)
  have B1 : (d1 t (i) x).getD q 0 = if q < i then x.getD (q) 0 else en t (x.getD (i) 0).toNat (x.getD (q + 1) 0).toNat := d1_get (by omega) (by omega)
  have B2 : (d1 t (i) x).getD (q + 1) 0 = if (q + 1) < i then x.getD ((q + 1)) 0 else en t (x.getD (i) 0).toNat (x.getD ((q + 1) + 1) 0).toNat := d1_get (by omega) (by omega)
  have G1 : (d0 (j) x).getD i 0 = x.getD i 0 := (d0_get hj (by omega)).trans (if_pos hij)
  rw [L, R]
  by_cases a : q < i
  · rw [if_pos a, if_pos (show q < j - 1 by omega), A1, B1, if_pos (show q < j by omega), if_pos a]
  · by_cases b : q < j - 1
    · rw [if_neg a, if_pos b, G1, A2, B1, if_pos (show q + 1 < j by omega), if_neg a]
    · rw [if_neg a, if_neg b, G1, A2, B2, if_neg (show ¬ q + 1 < j by omega), if_neg (show ¬ q + 1 < i by omega)]

theorem dd_d (ht : tabB t = true) (hq0 : ∀ x, x < t.length → ∀ y, y < t.length → ∀ z, z < t.length → en t x (en t y z).toNat = en t (en t x y).toNat (en t x z).toNat) (hx : inT t.length x) (hij : i < j) (hj : j < x.length) : d1 t (i) (d1 t (j) x) = d1 t (j - 1) (d1 t (i) x) := by
  have l1 : (d1 t (j) x).length = x.length - 1 := d1_len hj
  have l2 : (d1 t (i) x).length = x.length - 1 := d1_len (by omega)
  have k1 : (d1 t (i) (d1 t (j) x)).length = x.length - 1 - 1 := (d1_len (by omega)).trans (by omega)
  have k2 : (d1 t (j - 1) (d1 t (i) x)).length = x.length - 1 - 1 := (d1_len (by omega)).trans (by omega)
  refine ls_ext (by omega) fun q hq => ?_
  rw [k1] at hq
  have L : (d1 t (i) (d1 t (j) x)).getD q 0 = if q < i then (d1 t (j) x).getD (q) 0 else en t ((d1 t (j) x).getD (i) 0).toNat ((d1 t (j) x).getD (q + 1) 0).toNat := d1_get (by omega) (by omega)
  have R : (d1 t (j - 1) (d1 t (i) x)).getD q 0 = if q < (j - 1) then (d1 t (i) x).getD (q) 0 else en t ((d1 t (i) x).getD ((j - 1)) 0).toNat ((d1 t (i) x).getD (q + 1) 0).toNat := d1_get (by omega) (by omega)
  have A1 : (d1 t (j) x).getD q 0 = if q < j then x.getD (q) 0 else en t (x.getD (j) 0).toNat (x.getD (q + 1) 0).toNat := d1_get hj (by omega)
  have A2 : (d1 t (j) x).getD (q + 1) 0 = if (q + 1) < j then x.getD ((q + 1)) 0 else en t (x.getD (j) 0).toNat (x.getD ((q + 1) + 1) 0).toNat := d1_get hj (by omega)
  have B1 : (d1 t (i) x).getD q 0 = if q < i then x.getD (q) 0 else en t (x.getD (i) 0).toNat (x.getD (q + 1) 0).toNat := d1_get (by omega) (by omega)
  have B2 : (d1 t (i) x).getD (q + 1) 0 = if (q + 1) < i then x.getD ((q + 1)) 0 else en t (x.getD (i) 0).toNat (x.getD ((q + 1) + 1) 0).toNat := d1_get (by omega) (by omega)
  have G1 : (d1 t (j) x).getD i 0 = x.getD i 0 := (d1_get hj (by omega)).trans (if_pos hij)
  have G2 : (d1 t (i) x).getD (j - 1) 0 = en t (x.getD i 0).toNat (x.getD j 0).toNat := by
    have := (d1_get (t := t) (i := i) (x := x) (q := j - 1) (by omega) (by omega)).trans (if_neg (by omega))
    rwa [show j - 1 + 1 = j by omega] at this
  rw [L, R]
  by_cases a : q < i
  · rw [if_pos a, if_pos (show q < j - 1 by omega), A1, B1, if_pos (show q < j by omega), if_pos a]
  · by_cases b : q < j - 1
    · rw [if_neg a, if_pos b, G1, A2, B1, if_pos (show q + 1 < j by omega), if_neg a]
    · rw [if_neg a, if_neg b, G1, G2, A2, B2, if_neg (show ¬ q + 1 < j by omega), if_neg (show ¬ q + 1 < i by omega)]
      have ei := hx i (by omega)
      have ej := hx j hj
      have eq := hx (q + 1 + 1) (by omega)
      exact hq0 _ (by omega) _ (by omega) _ (by omega)

end

def eS (i : Nat) : Int := if i % 2 = 0 then -1 else 1
theorem eS_succ (i : Nat) : eS (i + 1) = - eS i := by
  unfold eS
  by_cases h : i % 2 = 0
  · rw [if_pos h, if_neg (by omega)]; rfl
  · rw [if_neg h, if_pos (by omega)]

/-- The boundary of a function of tuples. -/
def dF (t : List (List Int)) (g : List Int → Int) (x : List Int) : Int := sm (fun i => eS i * (g (d0 i x) - g (d1 t i x))) x.length

theorem dsum {K : Nat} {F : Nat → Nat → Int} (h : ∀ i j, i < j → j < K → F i j = - F (j - 1) i) : ∀ k, k ≤ K → sm (fun j => sm (fun i => F i j) (k - 1)) k = 0
  | 0, _ => rfl
  | 1, _ => rfl
  | k + 2, hk => by
    have ih := dsum h (k + 1) (by omega)
    rw [show k + 2 - 1 = k + 1 by omega, sm]
    rw [show k + 1 - 1 = k by omega] at ih
    have e : sm (fun j => sm (fun i => F i j) (k + 1)) (k + 1) = sm (fun j => sm (fun i => F i j) k) (k + 1) + sm (fun j => F k j) (k + 1) := by
      rw [← sm_add]; rfl
    have e2 : sm (fun i => F i (k + 1)) (k + 1) = (-1) * sm (fun j => F k j) (k + 1) := by
      rw [← sm_mul]
      refine sm_ext fun i hi => ?_
      rw [h i (k + 1) (by omega) (by omega), show k + 1 - 1 = k by omega]; omega
    rw [e, e2, ih]; omega

/-- The boundary of a boundary is 0. -/
theorem dF_dF {t : List (List Int)} (ht : tabB t = true) (hq0 : ∀ x, x < t.length → ∀ y, y < t.length → ∀ z, z < t.length → en t x (en t y z).toNat = en t (en t x y).toNat (en t x z).toNat) {x : List Int} (hx : inT t.length x) (g : List Int → Int) : dF t (dF t g) x = 0 := by
  have key : ∀ j, j < x.length → eS j * (dF t g (d0 j x) - dF t g (d1 t j x)) = sm (fun i => eS j * (eS i * ((g (d0 i (d0 j x)) - g (d1 t i (d0 j x))) - (g (d0 i (d1 t j x)) - g (d1 t i (d1 t j x)))))) (x.length - 1) := fun j hj => by
    rw [sm_mul, dF, dF, d0_len hj, d1_len hj]
    congr 1
    rw [show ∀ a b : Int, a - b = a + (-1) * b from fun a b => by omega, ← sm_mul, ← sm_add]
    refine sm_ext fun i _ => ?_
    rw [Int.mul_sub (eS i) (_ - _) (_ - _)]
    omega
  rw [dF, show sm (fun i => eS i * (dF t g (d0 i x) - dF t g (d1 t i x))) x.length = _ from sm_ext key]
  refine dsum (K := x.length) (fun i j hij hj => ?_) x.length (Nat.le_refl _)
  rw [dd_a hij hj, dd_b hij hj, dd_c hij hj, dd_d ht hq0 hx hij hj]
  have es : eS j = - eS (j - 1) := by have := eS_succ (j - 1); rwa [show j - 1 + 1 = j by omega] at this
  rw [es]
  generalize g (d0 (j - 1) (d0 i x)) = a
  generalize g (d0 (j - 1) (d1 t i x)) = b
  generalize g (d1 t (j - 1) (d0 i x)) = c
  generalize g (d1 t (j - 1) (d1 t i x)) = d
  generalize eS (j - 1) = u
  generalize eS i = v
  rw [show a - b - (c - d) = a - c - (b - d) by omega, Int.neg_mul, ← Int.mul_assoc u v, Int.mul_comm u v, Int.mul_assoc]

theorem dF_congr {t : List (List Int)} (ht : tabB t = true) {p : Int} {x : List Int} (hx : inT t.length x) {g g' : List Int → Int} (h : ∀ y, inT t.length y → y.length = x.length - 1 → p ∣ g y - g' y) : p ∣ dF t g x - dF t g' x := by
  refine sm_mod _ _ _ fun i hi => ?_
  have a := h _ (d0_in hx hi) (d0_len hi)
  have b := h _ (d1_in ht hx hi) (d1_len hi)
  rw [← Int.mul_sub]
  refine Int.dvd_mul_of_dvd_right ?_
  have := Int.dvd_sub a b
  refine (show ∀ a b : Int, a = b → p ∣ a → p ∣ b from fun a b e h => e ▸ h) _ _ ?_ this
  omega

/-- A function that is 0 at flat tuples has boundary 0 at flat tuples of a quandle. -/
theorem dF_flat {t : List (List Int)} (hq : ∀ a, a < t.length → en t a a = (a : Int)) {x : List Int} (hx : inT t.length x) {m : Nat} (hm : m + 1 < x.length) (he : x.getD (m + 1) 0 = x.getD m 0) {g : List Int → Int}
    (hg : ∀ y m, m + 1 < y.length → y.getD (m + 1) 0 = y.getD m 0 → g y = 0) : dF t g x = 0 := by
  have e0 : d0 (m + 1) x = d0 m x := by
    refine ls_ext (by rw [d0_len hm, d0_len (by omega)]) fun q hq' => ?_
    rw [d0_len hm] at hq'
    rw [d0_get hm hq', d0_get (by omega) hq']
    by_cases a : q < m
    · rw [if_pos (by omega), if_pos a]
    · by_cases b : q = m
      · rw [if_pos (by omega), if_neg (by omega), b, he]
      · rw [if_neg (by omega), if_neg (by omega)]
  have e1 : d1 t (m + 1) x = d1 t m x := by
    refine ls_ext (by rw [d1_len hm, d1_len (by omega)]) fun q hq' => ?_
    rw [d1_len hm] at hq'
    rw [d1_get hm hq', d1_get (by omega) hq']
    by_cases a : q < m
    · rw [if_pos (by omega), if_pos a]
    · by_cases b : q = m
      · have xm := hx m (by omega)
        rw [if_pos (by omega), if_neg (by omega), b, he, hq _ (by omega)]; omega
      · rw [if_neg (by omega), if_neg (by omega), he]
  have z0 : ∀ i, i < x.length → i ≠ m → i ≠ m + 1 → g (d0 i x) = 0 ∧ g (d1 t i x) = 0 := fun i hi h1 h2 => by
    by_cases a : i < m
    · refine ⟨hg _ (m - 1) (by rw [d0_len hi]; omega) ?_, hg _ (m - 1) (by rw [d1_len hi]; omega) ?_⟩
      · rw [d0_get hi (by omega), d0_get hi (by omega), if_neg (by omega), if_neg (by omega), show m - 1 + 1 = m by omega, he]
      · rw [d1_get hi (by omega), d1_get hi (by omega), if_neg (by omega), if_neg (by omega), show m - 1 + 1 = m by omega, he]
    · refine ⟨hg _ m (by rw [d0_len hi]; omega) ?_, hg _ m (by rw [d1_len hi]; omega) ?_⟩
      · rw [d0_get hi (by omega), d0_get hi (by omega), if_pos (by omega), if_pos (by omega), he]
      · rw [d1_get hi (by omega), d1_get hi (by omega), if_pos (by omega), if_pos (by omega), he]
  rw [dF, sm_ext (g := fun i => (if i = m then eS m * (g (d0 m x) - g (d1 t m x)) else 0) + if i = m + 1 then eS (m + 1) * (g (d0 (m + 1) x) - g (d1 t (m + 1) x)) else 0) fun i hi => ?_, sm_add, sm_delta, sm_delta, if_pos (by omega), if_pos hm, e0, e1, eS_succ]
  · rw [Int.neg_mul]; omega
  · by_cases a : i = m
    · subst a; rw [if_pos rfl, if_neg (by omega)]; omega
    · by_cases b : i = m + 1
      · subst b; rw [if_neg (by omega), if_pos rfl]; omega
      · have z := z0 i hi a b
        rw [if_neg a, if_neg b, z.1, z.2]; simp

theorem sgS_eS (p : Int) (i : Nat) : p ∣ sgS p i - eS i := by
  unfold sgS eS
  split
  · exact ⟨1, by omega⟩
  · exact ⟨0, by omega⟩

/-- The boundary of a tuple, paired with a function of places. -/
theorem pt_dot {t : List (List Int)} (ht : tabB t = true) {p : Int} (hp : 2 ≤ p) {x : List Int} (hx : inT t.length x) (f : Nat → Int) : ∀ i, i ≤ x.length →
    p ∣ sm (fun q => (ptF t p x i).getD q 0 * f q) (t.length ^ (x.length - 1)) - sm (fun i => eS i * (f (plc t.length (d0 i x)).toNat - f (plc t.length (d1 t i x)).toNat)) i
  | 0, _ => by
    rw [sm_ext (g := fun q => 0 * 0) fun q hq => by
      have : (ptF t p x 0).getD q 0 = 0 := by simp only [ptF]; simp [List.getD_eq_getElem?_getD, List.getElem?_replicate]; split <;> rfl
      rw [this]; simp, sm_mul]
    simp [sm]
  | i + 1, hi => by
    have n1 := (tabB_of ht).1
    have ih := pt_dot ht hp hx f i (by omega)
    have a := plc_all n1 (d0_in hx (i := i) (by omega))
    have b := plc_all n1 (d1_in ht hx (i := i) (by omega))
    rw [d0_len (by omega), ← Int.natCast_pow] at a
    rw [d1_len (by omega), ← Int.natCast_pow] at b
    have D := dot_bump (by omega) (sgS_in hp i) (ptF_in t hp x i) (ptF_length t p x i) (a := pa t x i) (b := pb t x i) (by unfold pa; show (plc t.length (d0 i x)).toNat < _; omega) (by unfold pb; show (plc t.length (d1 t i x)).toNat < _; omega) f
    have E := sgS_eS p i
    rw [ptF, sm]
    have e1 : f (pa t x i) = f (plc t.length (d0 i x)).toNat := rfl
    have e2 : f (pb t x i) = f (plc t.length (d1 t i x)).toNat := rfl
    rw [e1, e2] at D
    generalize f (plc t.length (d0 i x)).toNat = u at *
    generalize f (plc t.length (d1 t i x)).toNat = v at *
    have W := Int.dvd_add (Int.dvd_add D ih) (show p ∣ (sgS p i - eS i) * (u - v) from Int.dvd_mul_of_dvd_left E)
    refine (show ∀ a b : Int, a = b → p ∣ a → p ∣ b from fun a b e h => e ▸ h) _ _ ?_ W
    rw [Int.sub_mul (sgS p i) (eS i) (u - v), Int.mul_sub (sgS p i) u v]
    omega

theorem dig_plc {n : Nat} {x : List Int} (hx : inT n x) (hn : 1 ≤ n) : digN (n : Int) x.length (plc n x) = x := by
  have : ∀ i, i ≤ x.length → digN (n : Int) i (plc n (x.take i)) = x.take i := fun i => by
    induction i with
    | zero => intro _; simp [digN]
    | succ i ih =>
      intro hi
      have c := hx i (by omega)
      have q := (plc_le hn hx i (by omega)).1
      have m := Int.mul_nonneg q (show (0 : Int) ≤ n by omega)
      rw [digN, plc_step _ _ _ (by omega), ← take_snoc x 0 i (by omega)]
      have e1 : (plc n (x.take i) * (n : Int) + x.getD i 0).tdiv n = plc n (x.take i) := by
        rw [Int.tdiv_eq_ediv_of_nonneg (by omega), Int.add_comm, Int.add_mul_ediv_right _ _ (by omega), Int.ediv_eq_zero_of_lt c.1 (by omega), Int.zero_add]
      have e2 : (plc n (x.take i) * (n : Int) + x.getD i 0).tmod n = x.getD i 0 := by
        rw [Int.tmod_eq_emod_of_nonneg (by omega), Int.add_comm, Int.add_mul_emod_self_right, Int.emod_eq_of_lt c.1 (by omega)]
      rw [e1, e2, ih (by omega)]
  have := this x.length (Nat.le_refl _)
  rwa [List.take_of_length_le (Nat.le_refl _)] at this

/-- Is a tuple the one with a place? -/
def hF (t : List (List Int)) (r : Nat) (y : List Int) : Int := if (plc t.length y).toNat = r then 1 else 0

theorem pt_at {t : List (List Int)} (ht : tabB t = true) {p : Int} (hp : 2 ≤ p) {x : List Int} (hx : inT t.length x) {r : Nat} (hr : r < t.length ^ (x.length - 1)) : p ∣ (ptF t p x x.length).getD r 0 - dF t (hF t r) x := by
  have := pt_dot ht hp hx (fun q => if q = r then 1 else 0) x.length (Nat.le_refl _)
  rwa [sm_ext (g := fun q => if q = r then (ptF t p x x.length).getD r 0 else 0) fun q _ => by
    by_cases e : q = r
    · rw [if_pos e, if_pos e, e, Int.mul_one]
    · rw [if_neg e, if_neg e, Int.mul_zero], sm_delta, if_pos hr] at this

section
variable {t : List (List Int)} {p : Int} {K : Nat} {c : List Int}

/-- What the boundaries of degree K + 2 have in common with those of degree K + 1. -/
theorem bb_row (ht : tabB t = true) (hq0 : ∀ x, x < t.length → ∀ y, y < t.length → ∀ z, z < t.length → en t x (en t y z).toNat = en t (en t x y).toNat (en t x z).toNat) (hp : 2 ≤ p) {r : Nat} (hr : r < t.length ^ K) (j : Nat) :
    p ∣ sm (fun q => (btF t p (K + 2) j).getD q 0 * (btF t p (K + 1) q).getD r 0) (t.length ^ (K + 1)) := by
  have n1 := (tabB_of ht).1
  have dl := digN_length (t.length : Int) (K + 2) (j : Int)
  have di := digN_in n1 (K + 2) (j : Int) (by omega)
  have A := pt_dot ht hp di (fun q => (btF t p (K + 1) q).getD r 0) (K + 2) (by omega)
  rw [dl, show K + 2 - 1 = K + 1 by omega] at A
  have B : p ∣ dF t (fun y => (btF t p (K + 1) (plc t.length y).toNat).getD r 0) (digN (t.length : Int) (K + 2) (j : Int)) - dF t (dF t (hF t r)) (digN (t.length : Int) (K + 2) (j : Int)) :=
    dF_congr ht di fun y hy hl => by
      rw [dl] at hl
      have e : btF t p (K + 1) (plc t.length y).toNat = ptF t p y y.length := by
        have q := (plc_all n1 hy).1
        rw [btF, show (((plc t.length y).toNat : Nat) : Int) = plc t.length y by omega, show K + 1 = y.length by omega, dig_plc hy n1]
      rw [e]
      exact pt_at ht hp hy (by rw [hl]; exact hr)
  rw [dF_dF ht hq0 di, Int.sub_zero, dF, dl] at B
  have := Int.dvd_add A B
  rwa [Int.sub_add_cancel] at this

/-- A boundary is a combination of the rows. -/
theorem bd_span (hp : 2 ≤ p) (hc : rwP p (t.length ^ (K + 2)) c) {f : Nat → Int} (h : ∀ j, j < t.length ^ (K + 2) → p ∣ sm (fun q => (btF t p (K + 2) j).getD q 0 * f q) (t.length ^ (K + 1))) :
    p ∣ sm (fun q => (bdF t p (K + 2) c c.length).getD q 0 * f q) (t.length ^ (K + 1)) := by
  obtain ⟨_, b2⟩ := bd_lin (t := t) hp (K := K + 2) hc.2 c.length (Nat.le_refl _)
  rw [show K + 2 - 1 = K + 1 by omega] at b2
  have gl : ∀ j, j < t.length ^ (K + 2) → ((List.range (t.length ^ (K + 2))).map (btF t p (K + 2))).getD j [] = btF t p (K + 2) j := fun j hj => by simp [List.getD, hj]
  refine ort_span (B := (List.range (t.length ^ (K + 2))).map (btF t p (K + 2))) (fun k hk => ?_) (v := fun q => (bdF t p (K + 2) c c.length).getD q 0) ⟨fun k => c.getD k 0, fun q hq => ?_⟩
  · have hk : k < t.length ^ (K + 2) := by simpa using hk
    rw [sm_ext (g := fun q => (btF t p (K + 2) k).getD q 0 * f q) fun q _ => by rw [at2, gl k hk]]
    exact h k hk
  · have := b2 q hq
    rw [show ((List.range (t.length ^ (K + 2))).map (btF t p (K + 2))).length = c.length by simp [hc.1]]
    rwa [sm_ext (f := fun k => c.getD k 0 * at2 ((List.range (t.length ^ (K + 2))).map (btF t p (K + 2))) k q) (g := fun j => c.getD j 0 * (btF t p (K + 2) j).getD q 0) fun k hk => by rw [at2, gl k (by rw [← hc.1]; exact hk)]]

theorem mod0 {p v : Int} (h0 : 0 ≤ v) (h1 : v ≤ p - 1) (h : p ∣ v) : v = 0 := by
  rcases Int.lt_or_eq_of_le h0 with g | g
  · have := Int.le_of_dvd g h; omega
  · exact g.symm

/-- The boundary of a boundary is 0. -/
theorem bd_bd (ht : tabB t = true) (hq0 : ∀ x, x < t.length → ∀ y, y < t.length → ∀ z, z < t.length → en t x (en t y z).toNat = en t (en t x y).toNat (en t x z).toNat) (hp : 2 ≤ p) (hc : rwP p (t.length ^ (K + 2)) c) {r : Nat} (hr : r < t.length ^ K) :
    (bdF t p (K + 1) (bdF t p (K + 2) c c.length) (bdF t p (K + 2) c c.length).length).getD r 0 = 0 := by
  obtain ⟨b1, _⟩ := bd_lin (t := t) hp (K := K + 2) hc.2 c.length (Nat.le_refl _)
  rw [show K + 2 - 1 = K + 1 by omega] at b1
  obtain ⟨a1, a2⟩ := bd_lin (t := t) hp (K := K + 1) b1.2 _ (Nat.le_refl _)
  rw [show K + 1 - 1 = K by omega] at a1 a2
  have v := a1.2 r (by rw [a1.1]; exact hr)
  refine mod0 v.1 v.2 ?_
  have A := a2 r hr
  have B := bd_span hp hc (f := fun q => (btF t p (K + 1) q).getD r 0) fun j _ => bb_row ht hq0 hp hr j
  rw [b1.1] at A ⊢
  have := Int.dvd_add A B
  rwa [Int.sub_add_cancel] at this

theorem flB_iff {x : List Int} : flB x = true ↔ ∃ m, m + 1 < x.length ∧ x.getD (m + 1) 0 = x.getD m 0 := by
  simp only [flB, Bool.not_eq_true', List.all_eq_false, List.mem_range, decide_eq_true_eq, Classical.not_not]
  constructor
  · rintro ⟨m, hm, e⟩; exact ⟨m, by omega, e⟩
  · rintro ⟨m, hm, e⟩; exact ⟨m, by omega, e⟩

/-- The same without flat tuples, for a quandle. -/
theorem bd_bd_q (ht : tabB t = true) (hq0 : ∀ x, x < t.length → ∀ y, y < t.length → ∀ z, z < t.length → en t x (en t y z).toNat = en t (en t x y).toNat (en t x z).toNat) (hid : ∀ a, a < t.length → en t a a = (a : Int)) (hp : 2 ≤ p) (hc : rwP p (t.length ^ (K + 2)) c)
    {b : List Int} (hb : b = clrN t.length (K + 1) (bdF t p (K + 2) c c.length) (bdF t p (K + 2) c c.length).length) {r : Nat} (hr : r < t.length ^ K) (hf : flB (digN (t.length : Int) K (r : Int)) = false) :
    (bdF t p (K + 1) b b.length).getD r 0 = 0 := by
  have n1 := (tabB_of ht).1
  obtain ⟨b1, _⟩ := bd_lin (t := t) hp (K := K + 2) hc.2 c.length (Nat.le_refl _)
  rw [show K + 2 - 1 = K + 1 by omega] at b1
  have bl : b.length = t.length ^ (K + 1) := by rw [hb, clrN_length, b1.1]
  have bg : ∀ q, q < t.length ^ (K + 1) → b.getD q 0 = if flB (digN (t.length : Int) (K + 1) (q : Int)) = true then 0 else (bdF t p (K + 2) c c.length).getD q 0 := fun q hq => by
    rw [hb, clrN, tab_getD _ _ _ (by rw [b1.1]; exact hq)]
    have e : ((K : Int) + 1).toNat = K + 1 := by omega
    rw [e]
    by_cases g : flB (digN (t.length : Int) (K + 1) (q : Int)) = true
    · rw [if_pos ⟨by rw [b1.1]; exact hq, g⟩, if_pos g]
    · rw [if_neg (fun x => g x.2), if_neg g]
  have b3 : inP p b := fun q hq => by
    rw [bl] at hq
    rw [bg q hq]
    split
    · omega
    · exact b1.2 q (by rw [b1.1]; exact hq)
  obtain ⟨a1, a2⟩ := bd_lin (t := t) hp (K := K + 1) b3 _ (Nat.le_refl _)
  rw [show K + 1 - 1 = K by omega] at a1 a2
  have v := a1.2 r (by rw [a1.1]; exact hr)
  refine mod0 v.1 v.2 ?_
  have A := a2 r hr
  have B := bd_span hp hc (f := fun q => (btF t p (K + 1) q).getD r 0) fun j _ => bb_row ht hq0 hp hr j
  -- at flat tuples the rows have 0 there
  have Z : ∀ q, q < t.length ^ (K + 1) → flB (digN (t.length : Int) (K + 1) (q : Int)) = true → p ∣ (btF t p (K + 1) q).getD r 0 := fun q _ hfl => by
    classical
    have dl := digN_length (t.length : Int) (K + 1) (q : Int)
    have di := digN_in n1 (K + 1) (q : Int) (by omega)
    have P := pt_at ht hp di (r := r) (by rw [dl]; exact hr)
    rw [dl] at P
    obtain ⟨m, hm, em⟩ := flB_iff.1 hfl
    -- flat ones have not the place r
    have hz : dF t (fun y => if inT t.length y ∧ y.length = K then hF t r y else 0) (digN (t.length : Int) (K + 1) (q : Int)) = 0 := dF_flat hid di hm em fun y m' h1 h2 => by
      by_cases w : inT t.length y ∧ y.length = K
      · rw [if_pos w, hF]
        split
        · rename_i e
          exfalso
          have d := dig_plc w.1 n1
          rw [w.2, show plc t.length y = (r : Int) by have := (plc_all n1 w.1).1; omega] at d
          rw [d] at hf
          exact absurd (flB_iff.2 ⟨m', h1, h2⟩) (by rw [hf]; decide)
        · rfl
      · rw [if_neg w]
    have hc := dF_congr ht (p := p) di (g := hF t r) (g' := fun y => if inT t.length y ∧ y.length = K then hF t r y else 0) fun y hy hl => by
      rw [dl] at hl
      rw [if_pos ⟨hy, by omega⟩, Int.sub_self]; exact Int.dvd_zero _
    rw [hz, Int.sub_zero] at hc
    have := Int.dvd_add P hc
    rwa [Int.sub_add_cancel] at this
  have C := sm_mod (p := p) (fun q => b.getD q 0 * (btF t p (K + 1) q).getD r 0) (fun q => (bdF t p (K + 2) c c.length).getD q 0 * (btF t p (K + 1) q).getD r 0) (t.length ^ (K + 1)) fun q hq => by
    rw [bg q hq]
    split
    · rename_i g
      rw [Int.zero_mul, Int.zero_sub]
      exact Int.dvd_neg.2 (Int.dvd_mul_of_dvd_right (Z q hq g))
    · rw [Int.sub_self]; exact Int.dvd_zero _
  rw [bl] at A ⊢
  have := Int.dvd_add (Int.dvd_add A C) B
  rwa [show ∀ a b c : Int, a - b + (b - c) + c = a from fun a b c => by omega] at this
end

end Go.Sx
