/- Bit -/
import Derived.Test.YtcfbmimjffkgdaaBase
open Go Go.Proofs
namespace Go.Sx
set_option linter.unusedSimpArgs false
set_option linter.unusedVariables false

theorem rg_step (f : Nat → Bool) {i N : Nat} (h : i < N) : (List.range' i (N - i)).all f = (f i && (List.range' (i + 1) (N - (i + 1))).all f) := by
  rw [show N - i = (N - (i + 1)) + 1 by omega, List.range'_succ]; rfl

theorem rg_end (f : Nat → Bool) {i N : Nat} (h : N ≤ i) : (List.range' i (N - i)).all f = true := by
  rw [show N - i = 0 by omega]; rfl

theorem rg_start (f : Nat → Bool) (N : Nat) : (List.range N).all f = (List.range' 0 (N - 0)).all f := by
  rw [List.range_eq_range', Nat.sub_zero]

end Go.Sx
