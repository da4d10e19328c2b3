/- Pair -/
import Derived.Test.YtcfbmimjffkgdaaBase
open Go Go.Proofs
namespace Go.Sx
set_option linter.unusedSimpArgs false
set_option linter.unusedVariables false

def dotN (a b : List Int) : Nat → Int
  | 0 => 0
  | i + 1 => dotN a b i + a.getD i 0 * b.getD i 0

theorem mul_le36 {x y : Int} (h1 : 0 ≤ x ∧ x ≤ 6) (h2 : 0 ≤ y ∧ y ≤ 6) : 0 ≤ x * y ∧ x * y ≤ 36 :=
  ⟨Int.mul_nonneg h1.1 h2.1, Int.le_trans (Int.mul_le_mul h1.2 h2.2 h2.1 (by omega)) (by omega)⟩

theorem dotN_le {p : Int} {a b : List Int} (hp : p ≤ 7) (ha : allW 0 (p - 1) a = true) (hb : allW 0 (p - 1) b = true) : ∀ i, i ≤ a.length → i ≤ b.length → 0 ≤ dotN a b i ∧ dotN a b i ≤ 36 * (i : Int)
  | 0, _, _ => by simp [dotN]
  | i + 1, h1, h2 => by
    have h3 := dotN_le hp ha hb i (by omega) (by omega)
    have h4 := allW_get ha i (by omega)
    have h5 := allW_get hb i (by omega)
    have := mul_le36 (x := a.getD i 0) (y := b.getD i 0) (by omega) (by omega)
    simp only [dotN]
    omega

def primeB (p : Int) : Bool := decide (p = 2 ∨ p = 3 ∨ p = 5 ∨ p = 7)

def pairOk (p : Int) (a b : List Int) : Bool := primeB p && decide (a.length ≤ 512) && decide (a.length = b.length) && (allW 0 (p - 1) a && allW 0 (p - 1) b)

def pairC (p : Int) (a b : List Int) : Int × Int := if pairOk p a b = true then ((dotN a b a.length).tmod p, 0) else (0, 2)







theorem primeB_le {p : Int} (h : primeB p = true) : 2 ≤ p ∧ p ≤ 7 := by
  have := of_decide_eq_true h
  omega

theorem pairC_no {p : Int} {a b : List Int} (h : pairOk p a b = false) : 0 = (pairC p a b).1 ∧ 2 = (pairC p a b).2 := by simp [pairC, h]
theorem pairC_yes {p : Int} {a b : List Int} (h : pairOk p a b = true) : (dotN a b a.length).tmod p = (pairC p a b).1 ∧ 0 = (pairC p a b).2 := by simp [pairC, h]




end Go.Sx
