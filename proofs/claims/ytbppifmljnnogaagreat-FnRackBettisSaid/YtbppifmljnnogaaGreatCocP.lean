/- CntP CocP -/
import Derived.Test.YtbppifmljnnogaaGreatTuple
import Derived.Test.YtbppifmljnnogaaGreatBndC
import Derived.Test.YtbppifmljnnogaaGreatKer
section
open Go Go.Proofs
namespace Go.Sx
set_option linter.unusedSimpArgs false
set_option linter.unusedVariables false
theorem rg_step (f : Nat → Bool) {i N : Nat} (h : i < N) : (List.range' i (N - i)).all f = (f i && (List.range' (i + 1) (N - (i + 1))).all f) := by
  rw [show N - i = (N - (i + 1)) + 1 by omega, List.range'_succ]; rfl
theorem rg_end (f : Nat → Bool) {i N : Nat} (h : N ≤ i) : (List.range' i (N - i)).all f = true := by
  rw [show N - i = 0 by omega]; rfl
theorem rg_start (f : Nat → Bool) (N : Nat) : (List.range N).all f = (List.range' 0 (N - 0)).all f := by
  rw [List.range_eq_range', Nat.sub_zero]
theorem digN_in {n : Nat} (hn : 1 ≤ n) : ∀ (k : Nat) (p : Int), 0 ≤ p → inT n (digN n k p)
  | 0, _, _ => fun q hq => by simp [digN] at hq
  | k + 1, p, hp => fun q hq => by
    rw [digN_length] at hq
    have hd : 0 ≤ p.tdiv n := Int.tdiv_nonneg hp (by omega)
    by_cases h : q < k
    · rw [digN, getD_append_left' _ _ _ _ (by rw [digN_length]; exact h)]
      exact digN_in hn k _ hd q (by rw [digN_length]; exact h)
    · have e : q = k := by omega
      subst e
      rw [digN, getD_append_right' _ _ _ _ (by rw [digN_length]; exact Nat.le_refl _), digN_length, Nat.sub_self]
      have := tmod_in (a := p) (m := n) hp (by omega)
      simpa using this
theorem sq_le {n : Nat} (h : n ≤ 12) : n * n ≤ 144 := Nat.mul_le_mul h h
theorem dig_ok {t : List (List Int)} {p : Int} (h1 : tabB t = true) (p1 : 2 ≤ p) (p2 : p ≤ 7) {k : Nat} (hk : k ≤ 1000) (hN : (t.length : Int) ^ (k - 1) ≤ 512) {i : Int} (hi : 0 ≤ i) : bdOk t p (digN t.length k i) :=
  ⟨h1, p1, p2, digN_in (tabB_of h1).1 k i hi, by rw [digN_length]; exact hN, by rw [digN_length]; exact hk⟩
theorem stF_zero {p : Int} (hp : 1 ≤ p) {d : List Int} (hd : inP p d) : stF p 1 d (List.replicate d.length 0) = d := by
  refine list_ext (by rw [stF_length, List.length_replicate]) fun q hq => ?_
  rw [stF_length, List.length_replicate] at hq
  rw [stF, tab_getD _ _ _ (by rw [List.length_replicate]; exact hq)]
  have := hd q hq
  have e : (List.replicate d.length (0 : Int)).getD q 0 = 0 := by simp [List.getD_eq_getElem?_getD, hq]
  rw [e, Int.zero_add, Int.one_mul, Int.tmod_eq_emod_of_nonneg this.1, Int.emod_eq_of_lt this.1 (by omega)]
theorem rep_in {p : Int} (hp : 1 ≤ p) (n : Nat) : inP p (List.replicate n 0) := fun q hq => by
  rw [List.length_replicate] at hq
  simp [List.getD_eq_getElem?_getD, hq]; omega
theorem ad_zero {t : List (List Int)} {p : Int} (hp : 2 ≤ p) (x : List Int) (i : Nat) : adF t p x 1 (List.replicate (t.length ^ (x.length - 1)) 0) i = ptF t p x i := by
  rw [ad_eq hp (by omega) (rep_in (by omega) _) (by rw [List.length_replicate])]
  have e := stF_zero (show 1 ≤ p by omega) (ptF_in t hp x i)
  rwa [ptF_length] at e
end Go.Sx
end
section
section
open Go Go.Proofs
namespace Go.Sx
set_option linter.unusedSimpArgs false
set_option linter.unusedVariables false
def cN (P : Nat → Bool) : Nat → Nat
  | 0 => 0
  | k + 1 => if P k = true then cN P k + 1 else cN P k
def dg (p k q : Nat) : Int := ((k / p ^ q % p : Nat) : Int)
theorem Rref.inj {p : Int} {M : Nat} {B : List (List Int)} (h : Rref p M B) {i j : Nat} (hi : i < B.length) (hj : j < B.length) (e : ldN B i = ldN B j) : i = j := by
  rcases Nat.lt_trichotomy i j with g | g | g
  · have := h.inc i j g hj; omega
  · exact g
  · have := h.inc j i g hi; omega
theorem one_get {M a q : Nat} (hq : q < M) : ((List.replicate M (0 : Int)).set a 1).getD q 0 = if q = a then 1 else 0 := by
  rw [getD_set _ _ _ _ (by simpa using hq)]
  by_cases e : q = a
  · rw [if_pos e, if_pos e]
  · rw [if_neg e, if_neg e]; simp [List.getD, hq]
theorem ort_span {p : Int} {M : Nat} {B : List (List Int)} {f v : Nat → Int} (h : ∀ k, k < B.length → p ∣ sm (fun q => at2 B k q * f q) M) (hv : SpP p M B v) : p ∣ sm (fun q => v q * f q) M := by
  obtain ⟨c, hc⟩ := hv
  have A : ∀ n, n ≤ B.length → p ∣ sm (fun q => sm (fun k => c k * at2 B k q) n * f q) M := fun n => by
    induction n with
    | zero =>
      intro _
      rw [sm_ext (g := fun q => 0 * 0) fun q _ => by simp [sm], sm_mul]; simp
    | succ n ih =>
      intro hn
      rw [sm_ext (g := fun q => sm (fun k => c k * at2 B k q) n * f q + c n * (at2 B n q * f q)) fun q _ => by
        simp only [sm]; rw [Int.add_mul, Int.mul_assoc], sm_add, sm_mul]
      exact Int.dvd_add (ih (by omega)) (Int.dvd_mul_of_dvd_right (h n (by omega)))
  have D := sm_mod (p := p) (fun q => v q * f q) (fun q => sm (fun k => c k * at2 B k q) B.length * f q) M fun q hq => by
    rw [← Int.sub_mul]
    exact Int.dvd_mul_of_dvd_left (hc q hq)
  have := Int.dvd_add D (A B.length (Nat.le_refl _))
  rwa [Int.sub_add_cancel] at this
end Go.Sx
end
section
open Go Go.Proofs
namespace Go.Sx
set_option linter.unusedSimpArgs false
set_option linter.unusedVariables false
theorem dot_bump {p s : Int} {a b M : Nat} {c : List Int} (hp : 1 ≤ p) (hs : 0 ≤ s ∧ s ≤ p - 1) (hc : inP p c) (hl : c.length = M) (ha : a < M) (hb : b < M) (f : Nat → Int) :
    p ∣ sm (fun q => (bump p s a b c).getD q 0 * f q) M - (sm (fun q => c.getD q 0 * f q) M + s * f a - s * f b) := by
  have e : sm (fun q => c.getD q 0 * f q) M + s * f a - s * f b = sm (fun q => (c.getD q 0 + (if q = a then s else 0) - (if q = b then s else 0)) * f q) M := by
    have E : ∀ q, (c.getD q 0 + (if q = a then s else 0) - (if q = b then s else 0)) * f q = (c.getD q 0 * f q + if q = a then s * f a else 0) + (-1) * (if q = b then s * f b else 0) := fun q => by
      have e1 : (if q = a then s else 0) * f q = if q = a then s * f a else 0 := by
        by_cases h : q = a
        · rw [if_pos h, if_pos h, h]
        · rw [if_neg h, if_neg h, Int.zero_mul]
      have e2 : (if q = b then s else 0) * f q = if q = b then s * f b else 0 := by
        by_cases h : q = b
        · rw [if_pos h, if_pos h, h]
        · rw [if_neg h, if_neg h, Int.zero_mul]
      rw [Int.sub_mul, Int.add_mul, e1, e2]
      omega
    rw [show sm (fun q => (c.getD q 0 + (if q = a then s else 0) - (if q = b then s else 0)) * f q) M = _ from sm_ext fun q _ => E q, sm_add, sm_add, sm_mul, sm_delta, sm_delta, if_pos ha, if_pos hb]
    omega
  rw [e]
  refine sm_mod _ _ _ fun q hq => ?_
  rw [← Int.sub_mul]
  exact Int.dvd_mul_of_dvd_left (bump_mod hp hs hc q (by omega))
theorem plc2 (n a b : Int) : plc n [a, b] = a * n + b := by simp [plc]
theorem sqr_lt {n x y : Nat} (hx : x < n) (hy : y < n) : x * n + y < n * n := by
  have := Nat.mul_le_mul_right n (show x + 1 ≤ n by omega)
  rw [Nat.succ_mul] at this
  omega
theorem plc_nat (n x y : Nat) : (plc (n : Int) [(x : Int), (y : Int)]).toNat = x * n + y := by
  rw [plc2]
  have : (x : Int) * n + y = ((x * n + y : Nat) : Int) := by simp
  rw [this]; rfl
theorem pt3_dot {t : List (List Int)} (ht : tabB t = true) {p : Int} (hp : 2 ≤ p) {x y z : Nat} (hx : x < t.length) (hy : y < t.length) (hz : z < t.length) (f : Nat → Int) :
    p ∣ sm (fun q => (ptF t p [(x : Int), (y : Int), (z : Int)] 3).getD q 0 * f q) (t.length * t.length) +
      (f (y * t.length + z) + f (x * t.length + (en t y z).toNat) - f (x * t.length + z) - f ((en t x y).toNat * t.length + (en t x z).toNat)) := by
  obtain ⟨n1, n2, tt⟩ := tabB_of ht
  have v : ∀ a b, a < t.length → b < t.length → 0 ≤ en t a b ∧ (en t a b).toNat < t.length := fun a b ha hb => by
    have := (tt a ha).2 b hb
    unfold en; omega
  have vy := v y z hy hz
  have vx := v x y hx hy
  have vz := v x z hx hz
  have len : ∀ i, (ptF t p [(x : Int), (y : Int), (z : Int)] i).length = t.length * t.length := fun i => by rw [ptF_length]; simp [Nat.pow_succ]
  have A0 : pa t [(x : Int), (y : Int), (z : Int)] 0 = y * t.length + z := plc_nat _ y z
  have A1 : pa t [(x : Int), (y : Int), (z : Int)] 1 = x * t.length + z := plc_nat _ x z
  have A2 : pa t [(x : Int), (y : Int), (z : Int)] 2 = x * t.length + y := plc_nat _ x y
  have c0 : ∀ a b : Nat, a < t.length → b < t.length → en t a b = (((en t a b).toNat : Nat) : Int) := fun a b ha hb => by have := v a b ha hb; omega
  have B0 : pb t [(x : Int), (y : Int), (z : Int)] 0 = (en t x y).toNat * t.length + (en t x z).toNat := by
    have : mvk t (x : Int) 0 2 [(y : Int), (z : Int)] = [(((en t x y).toNat : Nat) : Int), (((en t x z).toNat : Nat) : Int)] := by
      rw [← c0 x y hx hy, ← c0 x z hx hz]; rfl
    show (plc _ (mvk t (x : Int) 0 2 [(y : Int), (z : Int)])).toNat = _
    rw [this, plc_nat]
  have B1 : pb t [(x : Int), (y : Int), (z : Int)] 1 = x * t.length + (en t y z).toNat := by
    have : mvk t (y : Int) 1 2 [(x : Int), (z : Int)] = [(x : Int), (((en t y z).toNat : Nat) : Int)] := by
      rw [← c0 y z hy hz]; rfl
    show (plc _ (mvk t (y : Int) 1 2 [(x : Int), (z : Int)])).toNat = _
    rw [this, plc_nat]
  have B2 : pb t [(x : Int), (y : Int), (z : Int)] 2 = x * t.length + y := by
    show (plc _ (mvk t (z : Int) 2 2 [(x : Int), (y : Int)])).toNat = _
    rw [mvk_none, plc_nat]
  have S0 := dot_bump (by omega) (sgS_in hp 0) (ptF_in t hp [(x : Int), (y : Int), (z : Int)] 0) (len 0) (a := pa t [(x : Int), (y : Int), (z : Int)] 0) (b := pb t [(x : Int), (y : Int), (z : Int)] 0) (by rw [A0]; exact sqr_lt hy hz) (by rw [B0]; exact sqr_lt vx.2 vz.2) f
  have S1 := dot_bump (by omega) (sgS_in hp 1) (ptF_in t hp [(x : Int), (y : Int), (z : Int)] 1) (len 1) (a := pa t [(x : Int), (y : Int), (z : Int)] 1) (b := pb t [(x : Int), (y : Int), (z : Int)] 1) (by rw [A1]; exact sqr_lt hx hz) (by rw [B1]; exact sqr_lt hx vy.2) f
  have S2 := dot_bump (by omega) (sgS_in hp 2) (ptF_in t hp [(x : Int), (y : Int), (z : Int)] 2) (len 2) (a := pa t [(x : Int), (y : Int), (z : Int)] 2) (b := pb t [(x : Int), (y : Int), (z : Int)] 2) (by rw [A2]; exact sqr_lt hx hy) (by rw [B2]; exact sqr_lt hx hy) f
  have Z : sm (fun q => (ptF t p [(x : Int), (y : Int), (z : Int)] 0).getD q 0 * f q) (t.length * t.length) = 0 := by
    rw [sm_ext (g := fun q => 0 * 0) fun q hq => by
      have : (ptF t p [(x : Int), (y : Int), (z : Int)] 0).getD q 0 = 0 := by simp only [ptF]; simp [List.getD_eq_getElem?_getD, List.getElem?_replicate]; split <;> rfl
      rw [this]; simp, sm_mul]; simp
  have P1 : bump p (sgS p 0) (pa t [(x : Int), (y : Int), (z : Int)] 0) (pb t [(x : Int), (y : Int), (z : Int)] 0) (ptF t p [(x : Int), (y : Int), (z : Int)] 0) = ptF t p [(x : Int), (y : Int), (z : Int)] 1 := rfl
  have P2 : bump p (sgS p 1) (pa t [(x : Int), (y : Int), (z : Int)] 1) (pb t [(x : Int), (y : Int), (z : Int)] 1) (ptF t p [(x : Int), (y : Int), (z : Int)] 1) = ptF t p [(x : Int), (y : Int), (z : Int)] 2 := rfl
  have P3 : bump p (sgS p 2) (pa t [(x : Int), (y : Int), (z : Int)] 2) (pb t [(x : Int), (y : Int), (z : Int)] 2) (ptF t p [(x : Int), (y : Int), (z : Int)] 2) = ptF t p [(x : Int), (y : Int), (z : Int)] 3 := rfl
  rw [P1, Z, A0, B0, show sgS p 0 = p - 1 from rfl] at S0
  rw [P2, A1, B1, show sgS p 1 = 1 from rfl] at S1
  rw [P3, A2, B2, show sgS p 2 = p - 1 from rfl] at S2
  have T := Int.dvd_add (Int.dvd_add S0 S1) S2
  have U : p ∣ p * (f (y * t.length + z) - f ((en t x y).toNat * t.length + (en t x z).toNat)) := ⟨_, rfl⟩
  have W := Int.dvd_add T U
  rw [Int.mul_sub] at W
  simp only [Int.sub_mul, Int.one_mul] at W
  refine (show ∀ a b : Int, a = b → p ∣ a → p ∣ b from fun a b e h => e ▸ h) _ _ ?_ W
  omega
end Go.Sx
end
end
