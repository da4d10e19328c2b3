/- Lists -/
import Derived.Test.YtocfgmeogdchpaaBase
open Go Go.Proofs
namespace Go.Sx
set_option linter.unusedSimpArgs false
set_option linter.unusedVariables false

def roomR (l : List (List Int)) : Prop := l.length ≤ 1099511627776 ∧ ∀ r ∈ l, r.length ≤ 1099511627776

theorem roomR_get {l : List (List Int)} (h : roomR l) (i : Nat) (hi : i < l.length) : (l.getD i []).length ≤ 1099511627776 := h.2 _ (getD_mem l [] i hi)

end Go.Sx
