/- Ext Rb Inc Qb -/
import Derived.Test.YtcfbmimjffkgdaaRackC
import Derived.Test.YtcfbmimjffkgdaaBndC
import Derived.Test.YtcfbmimjffkgdaaCoc
import Derived.Test.YtcfbmimjffkgdaaBase
section
open Go Go.Proofs
namespace Go.Sx
set_option linter.unusedSimpArgs false
set_option linter.unusedVariables false



theorem div_in {a n m : Int} (hm : 1 ≤ m) (h0 : 0 ≤ a) (h : a < n * m) : 0 ≤ a.tdiv m ∧ a.tdiv m < n ∧ 0 ≤ a.tmod m ∧ a.tmod m ≤ m - 1 := by
  have e1 : a.tdiv m = a / m := Int.tdiv_eq_ediv_of_nonneg h0
  rw [e1]
  have q := tmod_in h0 hm
  exact ⟨Int.ediv_nonneg h0 (by omega), Int.ediv_lt_of_lt_mul (by omega) h, q.1, q.2⟩

def exI (t : List (List Int)) (m : Int) (f : List (List Int)) (x y : Int) : Int := (t.getD (x.tdiv m).toNat []).getD (y.tdiv m).toNat 0 * m + (y.tmod m + (f.getD (x.tdiv m).toNat []).getD (y.tdiv m).toNat 0).tmod m

def exR (t : List (List Int)) (m : Int) (f : List (List Int)) : List (List Int) := tabR ((t.length : Int) * m).toNat fun x y => exI t m f (x : Int) (y : Int)

/-- What an entry of an extension needs. -/
theorem ex_in {t : List (List Int)} {m : Int} {f : List (List Int)} (h1 : tabB t = true) (h2 : matB (t.length : Int) m f = true) {x y : Int} (hx : 0 ≤ x) (hx2 : x < (t.length : Int) * m) (hy : 0 ≤ y) (hy2 : y < (t.length : Int) * m) :
    1 ≤ m ∧ m ≤ 12 ∧ (f.length : Int) = (t.length : Int) ∧ 0 ≤ x.tdiv m ∧ x.tdiv m < (t.length : Int) ∧ 0 ≤ y.tdiv m ∧ y.tdiv m < (t.length : Int) ∧ 0 ≤ y.tmod m ∧ y.tmod m ≤ m - 1 ∧
    (t.getD (x.tdiv m).toNat []).length = t.length ∧ (f.getD (x.tdiv m).toNat []).length = t.length ∧
    0 ≤ (f.getD (x.tdiv m).toNat []).getD (y.tdiv m).toNat 0 ∧ (f.getD (x.tdiv m).toNat []).getD (y.tdiv m).toNat 0 ≤ m - 1 ∧
    0 ≤ (t.getD (x.tdiv m).toNat []).getD (y.tdiv m).toNat 0 * m ∧ (t.getD (x.tdiv m).toNat []).getD (y.tdiv m).toNat 0 * m ≤ 144 ∧
    0 ≤ (y.tmod m + (f.getD (x.tdiv m).toNat []).getD (y.tdiv m).toNat 0).tmod m ∧ (y.tmod m + (f.getD (x.tdiv m).toNat []).getD (y.tdiv m).toNat 0).tmod m ≤ m - 1 := by
  obtain ⟨n1, n2, ht⟩ := tabB_of h1
  obtain ⟨m1, m2, m3, hf⟩ := matB_of h2
  obtain ⟨a1, a2, _, _⟩ := div_in m1 hx hx2
  obtain ⟨b1, b2, b3, b4⟩ := div_in m1 hy hy2
  have c := ht (x.tdiv m).toNat (by omega)
  have d := c.2 (y.tdiv m).toNat (by omega)
  have e := hf (x.tdiv m).toNat (by omega)
  have g := e.2 (y.tdiv m).toNat (by omega)
  have p1 := Int.mul_nonneg d.1 (show 0 ≤ m by omega)
  have p2 := Int.mul_le_mul (show (t.getD (x.tdiv m).toNat []).getD (y.tdiv m).toNat 0 ≤ 12 by omega) m2 (by omega) (by omega)
  have q := tmod_in (a := y.tmod m + (f.getD (x.tdiv m).toNat []).getD (y.tdiv m).toNat 0) (by omega) m1
  exact ⟨m1, m2, m3, a1, a2, b1, b2, b3, b4, c.1, by omega, g.1, g.2, p1, by omega, q.1, q.2⟩

theorem nm_in {t : List (List Int)} {m : Int} {f : List (List Int)} (h1 : tabB t = true) (h2 : matB (t.length : Int) m f = true) : 0 ≤ (t.length : Int) * m ∧ (t.length : Int) * m ≤ 144 := by
  have ht := tabB_of h1
  obtain ⟨m1, m2, _⟩ := matB_of h2
  have p1 := Int.mul_nonneg (show 0 ≤ (t.length : Int) by omega) (show 0 ≤ m by omega)
  have p2 := Int.mul_le_mul (show (t.length : Int) ≤ 12 by omega) m2 (by omega) (by omega)
  omega







def exC (t : List (List Int)) (m : Int) (f : List (List Int)) : List (List Int) × Int :=
  if rackB t = true then (if matB (t.length : Int) m f = true then (if 12 < (t.length : Int) * m then ([], 3) else if (rcF t m f).isNone = true then (exR t m f, 0) else ([], 5)) else ([], 2)) else ([], 1)

theorem exC_room (t : List (List Int)) (m : Int) (f : List (List Int)) : roomR (exC t m f).1 ∧ (exC t m f).1.length ≤ 1048576 ∧ sumL (exC t m f).1 ≤ 1048576 := by
  have nil : roomR ([] : List (List Int)) ∧ ([] : List (List Int)).length ≤ 1048576 ∧ sumL ([] : List (List Int)) ≤ 1048576 := ⟨⟨by simp, by simp⟩, by simp, by simp [sumL]⟩
  unfold exC
  split
  · split
    · rename_i hr hm
      have hn := nm_in (rackB_tab hr) hm
      split
      · exact nil
      · split
        · exact ⟨tabR_room _ _ (by omega), by simp only [exR, tabR_length]; omega, Nat.le_trans (tabR_sum _ _ (by omega)) (by omega)⟩
        · exact nil
    · exact nil
  · exact nil






end Go.Sx
end

section
open Go Go.Proofs
namespace Go.Sx
set_option linter.unusedSimpArgs false
set_option linter.unusedVariables false

/-- A chain of degree k. -/
def cnOk (t : List (List Int)) (p k : Int) (c : List Int) : Prop := tabB t = true ∧ 2 ≤ p ∧ p ≤ 7 ∧ 1 ≤ k ∧ degB t.length k = true ∧ inP p c ∧ c.length = t.length ^ k.toNat

theorem bdF_length (t : List (List Int)) (p : Int) (k : Nat) (c : List Int) : ∀ i, (bdF t p k c i).length = t.length ^ (k - 1)
  | 0 => by simp [bdF]
  | i + 1 => by
    simp only [bdF]
    split
    · exact bdF_length t p k c i
    · rw [stF_length, bdF_length t p k c i]

theorem bdF_in (t : List (List Int)) {p : Int} (hp : 2 ≤ p) (k : Nat) {c : List Int} (hc : inP p c) : ∀ i, i ≤ c.length → inP p (bdF t p k c i)
  | 0, _ => rep_in (by omega) _
  | i + 1, h => by
    have ih := bdF_in t hp k hc i (by omega)
    simp only [bdF]
    split
    · exact ih
    · refine stF_in (by omega) (hc i (by omega)).1 (by rw [bdF_length, ptF_length, digN_length]) (ptF_in t hp _ _) ih

theorem deg_sub {t : List (List Int)} (h1 : tabB t = true) {k : Int} (hk : 1 ≤ k) (hd : degB t.length k = true) : degB t.length (k - 1) = true ∧ (t.length : Int) ^ (k.toNat - 1) ≤ 512 ∧ k ≤ 1000 ∧ (t.length : Int) ^ k.toNat ≤ 512 ∧ (k - 1).toNat = k.toNat - 1 := by
  have d := degB_of hd
  have hn := (tabB_of h1).1
  have := pow_le (n := (t.length : Int)) (by omega) (show k.toNat - 1 ≤ k.toNat by omega)
  have e : (k - 1).toNat = k.toNat - 1 := by omega
  refine ⟨?_, by omega, by omega, by omega, e⟩
  simp only [degB, Bool.and_eq_true, decide_eq_true_eq]
  rw [e]
  omega





/-- The answer of RackBoundary. -/
def rbC (t : List (List Int)) (p k : Int) (c : List Int) : List Int × Int :=
  if chC t p k c = 0 then (if k = 0 then ([], 2) else (bdF t p k.toNat c c.length, 0)) else ([], chC t p k c)

theorem rbC_no {t : List (List Int)} {p k : Int} {c : List Int} {z : Int} (h : chC t p k c = z) (hz : z ≠ 0) : [] = (rbC t p k c).1 ∧ z = (rbC t p k c).2 := by
  rw [rbC, if_neg (by omega)]; exact ⟨rfl, h.symm⟩
theorem rbC_zero {t : List (List Int)} {p k : Int} {c : List Int} (h : chC t p k c = 0) (hk : k = 0) : [] = (rbC t p k c).1 ∧ 2 = (rbC t p k c).2 := by
  rw [rbC, if_pos h, if_pos hk]; exact ⟨rfl, rfl⟩
theorem rbC_yes {t : List (List Int)} {p k : Int} {c : List Int} (h : chC t p k c = 0) (hk : k ≠ 0) : bdF t p k.toNat c c.length = (rbC t p k c).1 ∧ 0 = (rbC t p k c).2 := by
  rw [rbC, if_pos h, if_neg hk]; exact ⟨rfl, rfl⟩

theorem ch_cnOk {t : List (List Int)} {p k : Int} {c : List Int} (h : chC t p k c = 0) (hk : k ≠ 0) : cnOk t p k c := by
  obtain ⟨h1, h2, h3, h4, h5⟩ := chC_ok h
  have hp := primeB_le h2
  have hd := degB_of h3
  obtain ⟨c1, c2, c3⟩ := chB_of h4
  exact ⟨rackB_tab h1, hp.1, hp.2, by omega, h3, c2, c1⟩

theorem rbC_len (t : List (List Int)) (p k : Int) (c : List Int) : (rbC t p k c).1.length ≤ 512 := by
  unfold rbC
  split
  · split
    · simp
    · rename_i h hk
      obtain ⟨h1, p1, p2, hk1, hd, hc, hcl⟩ := ch_cnOk h hk
      have := (deg_sub h1 hk1 hd).2.1
      rw [← Int.natCast_pow] at this
      simp only [bdF_length]
      omega
  · simp






end Go.Sx
end

section
open Go Go.Proofs
namespace Go.Sx
set_option linter.unusedSimpArgs false
set_option linter.unusedVariables false

def unitL (n : Nat) : List Int := tab n fun i => (i : Int)

def rngB (n : Int) (l : List Int) : Prop := ∀ x ∈ l, 0 ≤ x ∧ x < n

theorem rngB_get {n : Int} {l : List Int} (h : rngB n l) (i : Nat) (hi : i < l.length) : 0 ≤ l.getD i 0 ∧ l.getD i 0 < n := h _ (getD_mem l 0 i hi)

theorem rngB_set {n : Int} {l : List Int} (h : rngB n l) {a : Nat} {v : Int} (hv : 0 ≤ v ∧ v < n) : rngB n (l.set a v) := fun x hx => by
  rcases mem_set hx with hx | rfl
  · exact h x hx
  · exact hv

def incB : List Int → Bool
  | x :: y :: r => decide (x < y) && incB (y :: r)
  | _ => true

theorem incB_drop (l : List Int) (i : Nat) (h : i + 1 < l.length) : incB (l.drop i) = (decide (l.getD i 0 < l.getD (i + 1) 0) && incB (l.drop (i + 1))) := by
  rw [drop_cons' l 0 i (by omega), drop_cons' l 0 (i + 1) h]
  rfl

theorem incB_short (l : List Int) (i : Nat) (h : l.length ≤ i + 1) : incB (l.drop i) = true := by
  by_cases hi : i < l.length
  · rw [drop_cons' l 0 i hi, List.drop_of_length_le h]; rfl
  · rw [List.drop_of_length_le (by omega)]; rfl

theorem incB_get {l : List Int} (h : incB l = true) (i : Nat) (hi : i + 1 < l.length) : l.getD i 0 < l.getD (i + 1) 0 := by
  have : ∀ j, j ≤ i → incB (l.drop j) = true := fun j => by
    induction j with
    | zero => intro _; simpa using h
    | succ j ih =>
      intro hj
      have := ih (by omega)
      rw [incB_drop l j (by omega), Bool.and_eq_true] at this
      exact this.2
  have := this i (Nat.le_refl _)
  rw [incB_drop l i hi, Bool.and_eq_true] at this
  exact of_decide_eq_true this.1

/-- Increasing numbers of 0..n-1, n of them, are all in order. -/
theorem inc_unit {l : List Int} (hr : rngB (l.length : Int) l) : incB l = decide (l = unitL l.length) := by
  cases hc : incB l with
  | true =>
    symm
    apply decide_eq_true
    have low : ∀ i, i < l.length → (i : Int) ≤ l.getD i 0 := fun i => by
      induction i with
      | zero => intro hi; exact (rngB_get hr 0 hi).1
      | succ i ih =>
        intro hi
        have h1 := ih (by omega)
        have h2 := incB_get hc i hi
        omega
    have high : ∀ j i, i + j + 1 = l.length → l.getD i 0 ≤ (i : Int) := fun j => by
      induction j with
      | zero =>
        intro i hi
        have := rngB_get hr i (by omega)
        omega
      | succ j ih =>
        intro i hi
        have h1 := ih (i + 1) (by omega)
        have h2 := incB_get hc i (by omega)
        omega
    apply list_ext (by simp [unitL, tab_length])
    intro i hi
    rw [unitL, tab_getD _ _ _ hi]
    have h1 := low i hi
    have h2 := high (l.length - i - 1) i (by omega)
    omega
  | false =>
    symm
    apply decide_eq_false
    intro he
    have : ∀ n i, n - i ≤ n → incB ((unitL n).drop (n - i)) = true := fun n i => by
      induction i with
      | zero => intro _; exact incB_short _ _ (by simp [unitL, tab_length])
      | succ i ih =>
        intro hi
        by_cases hn : i + 1 ≤ n
        · by_cases h1 : i = 0
          · subst h1; exact incB_short _ _ (by simp [unitL, tab_length]; omega)
          · rw [incB_drop _ _ (by simp [unitL, tab_length]; omega), Bool.and_eq_true]
            refine ⟨decide_eq_true ?_, ?_⟩
            · rw [unitL, tab_getD _ _ _ (by omega), tab_getD _ _ _ (by omega)]; omega
            · rw [show n - (i + 1) + 1 = n - i by omega]; exact ih (by omega)
        · have := ih (by omega)
          rwa [show n - (i + 1) = n - i by omega]
    have := this l.length l.length (by omega)
    rw [Nat.sub_self, List.drop_zero, ← he, hc] at this
    cases this





end Go.Sx
end

section
open Go Go.Proofs
namespace Go.Sx
set_option linter.unusedSimpArgs false
set_option linter.unusedVariables false

/-- Two neighbours are equal. -/
def flB (x : List Int) : Bool := !((List.range (x.length - 1)).all fun i => decide (x.getD (i + 1) 0 ≠ x.getD i 0))





/-- The chain with the coefficients of flat tuples below i replaced by 0. -/
def clrN (n k : Int) (c : List Int) (i : Nat) : List Int := tab c.length fun q => if q < i ∧ flB (digN n k.toNat (q : Int)) = true then 0 else c.getD q 0

theorem clrN_length (n k : Int) (c : List Int) (i : Nat) : (clrN n k c i).length = c.length := tab_length _ _
theorem clrN_zero (n k : Int) (c : List Int) : clrN n k c 0 = c := by
  conv => rhs; rw [eq_tab c]
  exact tab_ext fun q _ => if_neg (by omega)
theorem clrN_yes {n k : Int} {c : List Int} {i : Nat} (h : flB (digN n k.toNat (i : Int)) = true) : (clrN n k c i).set i 0 = clrN n k c (i + 1) := by
  rw [clrN, tab_set]
  refine tab_ext fun q _ => ?_
  by_cases hq : q = i
  · subst hq; rw [if_pos rfl, if_pos ⟨by omega, h⟩]
  · rw [if_neg hq]
    by_cases h2 : q < i ∧ flB (digN n k.toNat (q : Int)) = true
    · rw [if_pos h2, if_pos ⟨by omega, h2.2⟩]
    · rw [if_neg h2, if_neg fun h3 => h2 ⟨by omega, h3.2⟩]
theorem clrN_no {n k : Int} {c : List Int} {i : Nat} (h : flB (digN n k.toNat (i : Int)) = false) : clrN n k c i = clrN n k c (i + 1) := by
  refine tab_ext fun q _ => ?_
  by_cases hq : q = i
  · subst hq; rw [if_neg (by omega), if_neg (by rw [h]; simp)]
  · by_cases h2 : q < i ∧ flB (digN n k.toNat (q : Int)) = true
    · rw [if_pos h2, if_pos ⟨by omega, h2.2⟩]
    · rw [if_neg h2, if_neg fun h3 => h2 ⟨by omega, h3.2⟩]





/-- The kink; is it the identity? -/
def kkL (t : List (List Int)) : List Int := tab t.length fun x => en t x x
def qdB (t : List (List Int)) : Bool := (List.range t.length).all fun x => decide (en t x x = (x : Int))

theorem kk_inc {t : List (List Int)} (h : tabB t = true) : incB (kkL t) = qdB t := by
  obtain ⟨n1, n2, ht⟩ := tabB_of h
  have hl : (kkL t).length = t.length := tab_length _ _
  have hr : rngB ((kkL t).length : Int) (kkL t) := fun x hx => by
    simp only [kkL, tab, List.mem_map, List.mem_range] at hx
    obtain ⟨i, hi, rfl⟩ := hx
    have := (ht i hi).2 i hi
    rw [hl]
    unfold en
    omega
  rw [inc_unit hr, hl, Bool.eq_iff_iff, decide_eq_true_iff, qdB, List.all_eq_true]
  constructor
  · intro e x hx
    rw [List.mem_range] at hx
    refine decide_eq_true ?_
    have : (kkL t).getD x 0 = (unitL t.length).getD x 0 := by rw [e]
    rwa [kkL, unitL, tab_getD _ _ _ hx, tab_getD _ _ _ hx] at this
  · intro e
    exact tab_ext fun x hx => of_decide_eq_true (e x (by simpa using hx))





/-- The answer of QuandleBoundary. -/
def qbC (t : List (List Int)) (p k : Int) (c : List Int) : List Int × Int :=
  if (rbC t p k c).2 = 0 then (if qdB t = true then (clrN t.length (k - 1) (rbC t p k c).1 (rbC t p k c).1.length, 0) else ([], 5)) else ([], (rbC t p k c).2)

theorem qbC_len (t : List (List Int)) (p k : Int) (c : List Int) : (qbC t p k c).1.length ≤ 512 := by
  unfold qbC
  split
  · split
    · simp only [clrN_length]; exact rbC_len t p k c
    · simp
  · simp

theorem qbC_no {t : List (List Int)} {p k : Int} {c : List Int} {z : Int} (h : (rbC t p k c).2 = z) (hz : z ≠ 0) : [] = (qbC t p k c).1 ∧ z = (qbC t p k c).2 := by
  rw [qbC, if_neg (by omega)]; exact ⟨rfl, h.symm⟩
theorem qbC_five {t : List (List Int)} {p k : Int} {c : List Int} (h : (rbC t p k c).2 = 0) (hq : qdB t = false) : [] = (qbC t p k c).1 ∧ 5 = (qbC t p k c).2 := by
  rw [qbC, if_pos h, if_neg (by rw [hq]; decide)]; exact ⟨rfl, rfl⟩
theorem qbC_yes {t : List (List Int)} {p k : Int} {c : List Int} (h : (rbC t p k c).2 = 0) (hq : qdB t = true) : clrN t.length (k - 1) (rbC t p k c).1 (rbC t p k c).1.length = (qbC t p k c).1 ∧ 0 = (qbC t p k c).2 := by
  rw [qbC, if_pos h, if_pos hq]; exact ⟨rfl, rfl⟩

theorem rbC_ok {t : List (List Int)} {p k : Int} {c : List Int} (h : (rbC t p k c).2 = 0) : chC t p k c = 0 ∧ k ≠ 0 := by
  unfold rbC at h
  split at h
  · rename_i e
    split at h
    · cases h
    · rename_i hk; exact ⟨e, hk⟩
  · rename_i e; exact absurd h e






end Go.Sx
end
