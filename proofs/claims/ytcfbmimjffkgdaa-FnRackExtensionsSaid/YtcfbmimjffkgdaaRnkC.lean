/- RnkC -/
import Derived.Test.YtcfbmimjffkgdaaRnk
import Derived.Test.YtcfbmimjffkgdaaQb
open Go Go.Proofs
namespace Go.Sx
set_option linter.unusedSimpArgs false
set_option linter.unusedVariables false

/-- The place of the first number with p, counted from k; -1 if there is none. -/
def idxF (p : Int → Bool) : List Int → Int → Int
  | [], _ => -1
  | x :: l, k => if p x = true then k else idxF p l (k + 1)

theorem idxF_fs0 : ∀ (l : List Int) (k : Int), idxF (fun c => c != 0) l k = fs0 l k
  | [], _ => rfl
  | x :: l, k => by
    simp only [idxF, fs0, idxF_fs0 l (k + 1), bne_iff_ne]









/-- Two rows modulo p. -/
def twR (p : Int) (a b : List Int) : Prop := 2 ≤ p ∧ p ≤ 7 ∧ inP p a ∧ inP p b ∧ a.length = b.length ∧ a.length ≤ 1000

theorem mul_le7 {x y : Int} (h1 : 0 ≤ x ∧ x ≤ 7) (h2 : 0 ≤ y ∧ y ≤ 7) : 0 ≤ x * y ∧ x * y ≤ 49 :=
  ⟨Int.mul_nonneg h1.1 h2.1, by
    have a := Int.mul_le_mul_of_nonneg_right h1.2 h2.1
    omega⟩











theorem rk_facts {t : List (List Int)} {k : Int} (h1 : tabB t = true) (hd : degB (t.length : Int) k = true) : 0 ≤ k ∧ k ≤ 1000 ∧ t.length ^ k.toNat ≤ 512 ∧ (t.length : Int) ^ k.toNat = ((t.length ^ k.toNat : Nat) : Int) ∧ 1 ≤ t.length ^ k.toNat := by
  have d := degB_of hd
  have hn := (tabB_of h1).1
  have e : (t.length : Int) ^ k.toNat = ((t.length ^ k.toNat : Nat) : Int) := (Int.natCast_pow _ _).symm
  rw [e] at d
  exact ⟨d.1, d.2.1, by omega, e, Nat.pow_pos (by omega)⟩

end Go.Sx
