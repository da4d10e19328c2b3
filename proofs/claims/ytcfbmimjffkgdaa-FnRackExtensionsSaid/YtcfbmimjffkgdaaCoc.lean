/- Coc -/
import Derived.Test.YtcfbmimjffkgdaaBndC
import Derived.Test.YtcfbmimjffkgdaaBit
open Go Go.Proofs
namespace Go.Sx
set_option linter.unusedSimpArgs false
set_option linter.unusedVariables false

/-- The boundary of the tuple of degree 3 with a place. -/
def crF (t : List (List Int)) (p : Int) (i : Nat) : List Int := ptF t p (digN t.length 3 i) 3

def crows (t : List (List Int)) (p : Int) : List (List Int) := (List.range (t.length * t.length * t.length)).map (crF t p)

theorem digN_in {n : Nat} (hn : 1 ≤ n) : ∀ (k : Nat) (p : Int), 0 ≤ p → inT n (digN n k p)
  | 0, _, _ => fun q hq => by simp [digN] at hq
  | k + 1, p, hp => fun q hq => by
    rw [digN_length] at hq
    have hd : 0 ≤ p.tdiv n := Int.tdiv_nonneg hp (by omega)
    by_cases h : q < k
    · rw [digN, getD_append_left' _ _ _ _ (by rw [digN_length]; exact h)]
      exact digN_in hn k _ hd q (by rw [digN_length]; exact h)
    · have e : q = k := by omega
      subst e
      rw [digN, getD_append_right' _ _ _ _ (by rw [digN_length]; exact Nat.le_refl _), digN_length, Nat.sub_self]
      have := tmod_in (a := p) (m := n) hp (by omega)
      simpa using this

theorem sq_le {n : Nat} (h : n ≤ 12) : n * n ≤ 144 := Nat.mul_le_mul h h
theorem cu_le {n : Nat} (h : n ≤ 12) : n * n * n ≤ 1728 := Nat.mul_le_mul (sq_le h) h

theorem dig_ok {t : List (List Int)} {p : Int} (h1 : tabB t = true) (p1 : 2 ≤ p) (p2 : p ≤ 7) {k : Nat} (hk : k ≤ 1000) (hN : (t.length : Int) ^ (k - 1) ≤ 512) {i : Int} (hi : 0 ≤ i) : bdOk t p (digN t.length k i) :=
  ⟨h1, p1, p2, digN_in (tabB_of h1).1 k i hi, by rw [digN_length]; exact hN, by rw [digN_length]; exact hk⟩

theorem sq_512 {t : List (List Int)} (h1 : tabB t = true) : (t.length : Int) ^ (3 - 1) ≤ 512 := by
  have h := sq_le (tabB_of h1).2.1
  rw [← Int.natCast_pow, show 3 - 1 = 2 from rfl, Nat.pow_two]
  omega

theorem stF_zero {p : Int} (hp : 1 ≤ p) {d : List Int} (hd : inP p d) : stF p 1 d (List.replicate d.length 0) = d := by
  refine list_ext (by rw [stF_length, List.length_replicate]) fun q hq => ?_
  rw [stF_length, List.length_replicate] at hq
  rw [stF, tab_getD _ _ _ (by rw [List.length_replicate]; exact hq)]
  have := hd q hq
  have e : (List.replicate d.length (0 : Int)).getD q 0 = 0 := by simp [List.getD_eq_getElem?_getD, hq]
  rw [e, Int.zero_add, Int.one_mul, Int.tmod_eq_emod_of_nonneg this.1, Int.emod_eq_of_lt this.1 (by omega)]

theorem rep_in {p : Int} (hp : 1 ≤ p) (n : Nat) : inP p (List.replicate n 0) := fun q hq => by
  rw [List.length_replicate] at hq
  simp [List.getD_eq_getElem?_getD, hq]; omega

theorem inP_allW {p : Int} {c : List Int} (h : inP p c) : allW 0 (p - 1) c = true := by
  rw [allW, List.all_eq_true]
  intro x hx
  obtain ⟨k, hk, rfl⟩ := List.getElem_of_mem hx
  have := h k hk
  rw [List.getD_eq_getElem?_getD, List.getElem?_eq_getElem hk] at this
  simpa using this

theorem ad_zero {t : List (List Int)} {p : Int} (hp : 2 ≤ p) (x : List Int) (i : Nat) : adF t p x 1 (List.replicate (t.length ^ (x.length - 1)) 0) i = ptF t p x i := by
  rw [ad_eq hp (by omega) (rep_in (by omega) _) (by rw [List.length_replicate])]
  have e := stF_zero (show 1 ≤ p by omega) (ptF_in t hp x i)
  rwa [ptF_length] at e

theorem crows_length (t : List (List Int)) (p : Int) : (crows t p).length = t.length * t.length * t.length := by simp [crows]
theorem crows_getD (t : List (List Int)) (p : Int) (i : Nat) (h : i < t.length * t.length * t.length) : (crows t p).getD i [] = crF t p i := by
  simp [crows, List.getD_eq_getElem?_getD, h]
theorem crF_length (t : List (List Int)) (p : Int) (i : Nat) : (crF t p i).length = t.length * t.length := by
  rw [crF, ptF_length, digN_length, show 3 - 1 = 2 from rfl, Nat.pow_two]



/-- All rows pair with the chain to 0. -/
def cocN (t : List (List Int)) (p : Int) (c : List Int) : Bool := (List.range (t.length * t.length * t.length)).all fun i => decide ((dotN (crF t p i) c (t.length * t.length)).tmod p = 0)
def cocC (t : List (List Int)) (p : Int) (c : List Int) : Bool × Int := if chC t p 2 c = 0 then (cocN t p c, 0) else (false, chC t p 2 c)

theorem cocC_no {t : List (List Int)} {p : Int} {c : List Int} {z : Int} (h : chC t p 2 c = z) (hz : z ≠ 0) : false = (cocC t p c).1 ∧ z = (cocC t p c).2 := by
  rw [cocC, if_neg (by omega)]; exact ⟨rfl, h.symm⟩
theorem cocC_yes {t : List (List Int)} {p : Int} {c : List Int} {b : Bool} (h : chC t p 2 c = 0) (hb : cocN t p c = b) : b = (cocC t p c).1 ∧ 0 = (cocC t p c).2 := by
  rw [cocC, if_pos h]; exact ⟨hb.symm, rfl⟩




end Go.Sx
