/- RxtP -/
import Derived.Test.YtcfbmimjffkgdaaQb
open Go Go.Proofs
namespace Go.Sx
set_option linter.unusedSimpArgs false
set_option linter.unusedVariables false

theorem fo_none {α : Type} {n : Nat} {q : Nat → Option α} : ∀ {k : Nat}, k ≤ n → (firstO n q k = none ↔ ∀ i, n - k ≤ i → i < n → q i = none)
  | 0, _ => ⟨fun _ i h1 h2 => by omega, fun _ => rfl⟩
  | k + 1, hk => by
    have ih := fo_none (q := q) (show k ≤ n by omega)
    rw [firstO]
    constructor
    · intro h i h1 h2
      have a : q (n - (k + 1)) = none := by
        cases e : q (n - (k + 1)) with
        | none => rfl
        | some v => rw [e] at h; cases h
      rw [a] at h
      by_cases e : i = n - (k + 1)
      · rw [e]; exact a
      · exact ih.1 h i (by omega) h2
    · intro h
      rw [h (n - (k + 1)) (Nat.le_refl _) (by omega)]
      exact ih.2 fun i h1 h2 => h i (by omega) h2

theorem fo_none' {α : Type} {n : Nat} {q : Nat → Option α} : firstO n q n = none ↔ ∀ i, i < n → q i = none := by
  rw [fo_none (Nat.le_refl n)]
  exact ⟨fun h i hi => h i (by omega) hi, fun h i _ hi => h i hi⟩

theorem rk_none {t : List (List Int)} : (rkF t).isNone = true ↔ ∀ x, x < t.length → ∀ y, y < t.length → ∀ z, z < t.length → en t x (en t y z).toNat = en t (en t x y).toNat (en t x z).toNat := by
  rw [Option.isNone_iff_eq_none, rkF, fo_none']
  refine forall_congr' fun x => forall_congr' fun _ => ?_
  rw [rkX, fo_none']
  refine forall_congr' fun y => forall_congr' fun _ => ?_
  rw [rkY, fo_none']
  refine forall_congr' fun z => forall_congr' fun _ => ?_
  unfold rkZ
  constructor
  · intro h
    split at h
    · assumption
    · cases h
  · intro h
    rw [if_pos h]

section
variable {t f : List (List Int)} {m : Int}

end

end Go.Sx
