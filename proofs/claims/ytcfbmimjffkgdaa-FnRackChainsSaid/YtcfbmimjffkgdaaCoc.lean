/- Coc -/
import Derived.Test.YtcfbmimjffkgdaaBndC
import Derived.Test.YtcfbmimjffkgdaaBit
open Go Go.Proofs
namespace Go.Sx
set_option linter.unusedSimpArgs false
set_option linter.unusedVariables false

theorem digN_in {n : Nat} (hn : 1 ≤ n) : ∀ (k : Nat) (p : Int), 0 ≤ p → inT n (digN n k p)
  | 0, _, _ => fun q hq => by simp [digN] at hq
  | k + 1, p, hp => fun q hq => by
    rw [digN_length] at hq
    have hd : 0 ≤ p.tdiv n := Int.tdiv_nonneg hp (by omega)
    by_cases h : q < k
    · rw [digN, getD_append_left' _ _ _ _ (by rw [digN_length]; exact h)]
      exact digN_in hn k _ hd q (by rw [digN_length]; exact h)
    · have e : q = k := by omega
      subst e
      rw [digN, getD_append_right' _ _ _ _ (by rw [digN_length]; exact Nat.le_refl _), digN_length, Nat.sub_self]
      have := tmod_in (a := p) (m := n) hp (by omega)
      simpa using this

theorem dig_ok {t : List (List Int)} {p : Int} (h1 : tabB t = true) (p1 : 2 ≤ p) (p2 : p ≤ 7) {k : Nat} (hk : k ≤ 1000) (hN : (t.length : Int) ^ (k - 1) ≤ 512) {i : Int} (hi : 0 ≤ i) : bdOk t p (digN t.length k i) :=
  ⟨h1, p1, p2, digN_in (tabB_of h1).1 k i hi, by rw [digN_length]; exact hN, by rw [digN_length]; exact hk⟩

theorem rep_in {p : Int} (hp : 1 ≤ p) (n : Nat) : inP p (List.replicate n 0) := fun q hq => by
  rw [List.length_replicate] at hq
  simp [List.getD_eq_getElem?_getD, hq]; omega

theorem inP_allW {p : Int} {c : List Int} (h : inP p c) : allW 0 (p - 1) c = true := by
  rw [allW, List.all_eq_true]
  intro x hx
  obtain ⟨k, hk, rfl⟩ := List.getElem_of_mem hx
  have := h k hk
  rw [List.getD_eq_getElem?_getD, List.getElem?_eq_getElem hk] at this
  simpa using this

end Go.Sx
