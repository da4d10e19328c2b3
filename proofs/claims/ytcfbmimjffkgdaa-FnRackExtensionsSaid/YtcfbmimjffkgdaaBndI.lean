/- BndI -/
import Derived.Test.YtcfbmimjffkgdaaDel
import Derived.Test.YtcfbmimjffkgdaaOwn
open Go Go.Proofs
namespace Go.Sx
set_option linter.unusedSimpArgs false
set_option linter.unusedVariables false







/-- A table, a prime, a tuple whose boundary is taken. -/
def bdOk (t : List (List Int)) (p : Int) (x : List Int) : Prop := tabB t = true ∧ 2 ≤ p ∧ p ≤ 7 ∧ inT t.length x ∧ (t.length : Int) ^ (x.length - 1) ≤ 512 ∧ x.length ≤ 1000





/-- The boundary of a chain of degree k, up to i. -/
def bdF (t : List (List Int)) (p : Int) (k : Nat) (c : List Int) : Nat → List Int
  | 0 => List.replicate (t.length ^ (k - 1)) 0
  | i + 1 => if c.getD i 0 = 0 then bdF t p k c i else stF p (c.getD i 0) (ptF t p (digN t.length k i) k) (bdF t p k c i)

end Go.Sx
