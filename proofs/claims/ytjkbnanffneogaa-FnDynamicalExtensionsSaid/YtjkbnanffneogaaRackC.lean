/- RackC -/
import Derived.Test.YtjkbnanffneogaaCmp
open Go Go.Proofs
namespace Go.Sx
set_option linter.unusedSimpArgs false
set_option linter.unusedVariables false
theorem firstO_some {α:Type} {n:Nat} {q:Nat→Option α} {r:α}:∀{k:Nat},firstO n q k=some r→∃i,q i=some r
  | 0,h=>by cases h
  | k+1,h=>by
    simp only [firstO,Option.or_eq_some_iff] at h
    rcases h with h | ⟨_,h⟩
    · exact ⟨_,h⟩
    · exact firstO_some h
end Go.Sx
