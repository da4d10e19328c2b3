/- CntP CocP -/
import Derived.Test.YtcfbmimjffkgdaaKer
import Derived.Test.YtcfbmimjffkgdaaCoc
import Derived.Test.YtcfbmimjffkgdaaRackC
section
open Go Go.Proofs
namespace Go.Sx
set_option linter.unusedSimpArgs false
set_option linter.unusedVariables false

theorem Rref.inj {p : Int} {M : Nat} {B : List (List Int)} (h : Rref p M B) {i j : Nat} (hi : i < B.length) (hj : j < B.length) (e : ldN B i = ldN B j) : i = j := by
  rcases Nat.lt_trichotomy i j with g | g | g
  · have := h.inc i j g hj; omega
  · exact g
  · have := h.inc j i g hi; omega

/-- What is orthogonal to the rows is so to their combinations. -/
theorem ort_span {p : Int} {M : Nat} {B : List (List Int)} {f v : Nat → Int} (h : ∀ k, k < B.length → p ∣ sm (fun q => at2 B k q * f q) M) (hv : SpP p M B v) : p ∣ sm (fun q => v q * f q) M := by
  obtain ⟨c, hc⟩ := hv
  have A : ∀ n, n ≤ B.length → p ∣ sm (fun q => sm (fun k => c k * at2 B k q) n * f q) M := fun n => by
    induction n with
    | zero =>
      intro _
      rw [sm_ext (g := fun q => 0 * 0) fun q _ => by simp [sm], sm_mul]; simp
    | succ n ih =>
      intro hn
      rw [sm_ext (g := fun q => sm (fun k => c k * at2 B k q) n * f q + c n * (at2 B n q * f q)) fun q _ => by
        simp only [sm]; rw [Int.add_mul, Int.mul_assoc], sm_add, sm_mul]
      exact Int.dvd_add (ih (by omega)) (Int.dvd_mul_of_dvd_right (h n (by omega)))
  have D := sm_mod (p := p) (fun q => v q * f q) (fun q => sm (fun k => c k * at2 B k q) B.length * f q) M fun q hq => by
    rw [← Int.sub_mul]
    exact Int.dvd_mul_of_dvd_left (hc q hq)
  have := Int.dvd_add D (A B.length (Nat.le_refl _))
  rwa [Int.sub_add_cancel] at this

end Go.Sx
end

section
open Go Go.Proofs
namespace Go.Sx
set_option linter.unusedSimpArgs false
set_option linter.unusedVariables false

theorem dot_bump {p s : Int} {a b M : Nat} {c : List Int} (hp : 1 ≤ p) (hs : 0 ≤ s ∧ s ≤ p - 1) (hc : inP p c) (hl : c.length = M) (ha : a < M) (hb : b < M) (f : Nat → Int) :
    p ∣ sm (fun q => (bump p s a b c).getD q 0 * f q) M - (sm (fun q => c.getD q 0 * f q) M + s * f a - s * f b) := by
  have e : sm (fun q => c.getD q 0 * f q) M + s * f a - s * f b = sm (fun q => (c.getD q 0 + (if q = a then s else 0) - (if q = b then s else 0)) * f q) M := by
    have E : ∀ q, (c.getD q 0 + (if q = a then s else 0) - (if q = b then s else 0)) * f q = (c.getD q 0 * f q + if q = a then s * f a else 0) + (-1) * (if q = b then s * f b else 0) := fun q => by
      have e1 : (if q = a then s else 0) * f q = if q = a then s * f a else 0 := by
        by_cases h : q = a
        · rw [if_pos h, if_pos h, h]
        · rw [if_neg h, if_neg h, Int.zero_mul]
      have e2 : (if q = b then s else 0) * f q = if q = b then s * f b else 0 := by
        by_cases h : q = b
        · rw [if_pos h, if_pos h, h]
        · rw [if_neg h, if_neg h, Int.zero_mul]
      rw [Int.sub_mul, Int.add_mul, e1, e2]
      omega
    rw [show sm (fun q => (c.getD q 0 + (if q = a then s else 0) - (if q = b then s else 0)) * f q) M = _ from sm_ext fun q _ => E q, sm_add, sm_add, sm_mul, sm_delta, sm_delta, if_pos ha, if_pos hb]
    omega
  rw [e]
  refine sm_mod _ _ _ fun q hq => ?_
  rw [← Int.sub_mul]
  exact Int.dvd_mul_of_dvd_left (bump_mod hp hs hc q (by omega))

end Go.Sx
end
