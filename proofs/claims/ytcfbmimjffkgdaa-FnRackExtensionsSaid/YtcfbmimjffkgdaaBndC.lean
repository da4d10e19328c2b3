/- BndC -/
import Derived.Test.YtcfbmimjffkgdaaBndI
import Derived.Test.YtcfbmimjffkgdaaRackC
import Derived.Test.YtcfbmimjffkgdaaPair
open Go Go.Proofs
namespace Go.Sx
set_option linter.unusedSimpArgs false
set_option linter.unusedVariables false

def dgB (t : List (List Int)) (p k : Int) : Bool := primeB p && degB t.length k
def dgC (t : List (List Int)) (p k : Int) : Int := if rackB t = true then (if dgB t p k = true then 0 else 2) else 1
def chB (t : List (List Int)) (p k : Int) (c : List Int) : Bool := decide ((c.length : Int) = (t.length : Int) ^ k.toNat) && allW 0 (p - 1) c
def chC (t : List (List Int)) (p k : Int) (c : List Int) : Int := if rackB t = true then (if dgB t p k = true then (if chB t p k c = true then 0 else 2) else 2) else 1

theorem allW_inP {p : Int} {c : List Int} (h : allW 0 (p - 1) c = true) : inP p c := fun q hq => by
  have := List.all_eq_true.1 h _ (getD_mem c 0 q hq)
  simpa using this

theorem chB_of {t : List (List Int)} {p k : Int} {c : List Int} (h : chB t p k c = true) : c.length = t.length ^ k.toNat ∧ inP p c ∧ allW 0 (p - 1) c = true := by
  simp only [chB, Bool.and_eq_true, decide_eq_true_eq] at h
  refine ⟨?_, allW_inP h.2, h.2⟩
  have := h.1
  rw [← Int.natCast_pow] at this
  exact Int.natCast_inj.1 this

theorem dgC_ok {t : List (List Int)} {p k : Int} (h : dgC t p k = 0) : rackB t = true ∧ primeB p = true ∧ degB t.length k = true ∧ dgB t p k = true := by
  unfold dgC at h
  split at h
  · split at h
    · rename_i a b
      have := b
      simp only [dgB, Bool.and_eq_true] at this
      exact ⟨a, this.1, this.2, b⟩
    · omega
  · omega

theorem dgC_no {t : List (List Int)} {p k : Int} (c : List Int) (h : dgC t p k ≠ 0) : dgC t p k = chC t p k c := by
  unfold dgC at h ⊢
  unfold chC
  split
  · rename_i a
    rw [if_pos a] at h
    split
    · rename_i b; rw [if_pos b] at h; omega
    · rfl
  · rfl

theorem chC_ok {t : List (List Int)} {p k : Int} {c : List Int} (h : chC t p k c = 0) : rackB t = true ∧ primeB p = true ∧ degB t.length k = true ∧ chB t p k c = true ∧ dgC t p k = 0 := by
  unfold chC at h
  split at h
  · split at h
    · split at h
      · rename_i a b d
        have e : dgC t p k = 0 := by rw [dgC, if_pos a, if_pos b]
        obtain ⟨x, y, z, _⟩ := dgC_ok e
        exact ⟨x, y, z, d, e⟩
      · omega
    · omega
  · omega

theorem degB_of {n k : Int} (h : degB n k = true) : 0 ≤ k ∧ k ≤ 1000 ∧ n ^ k.toNat ≤ 512 := by
  simp only [degB, Bool.and_eq_true, decide_eq_true_eq] at h
  omega









end Go.Sx
