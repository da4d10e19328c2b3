/- Fil -/
import Derived.Test.YtcfbmimjffkgdaaRnkC
import Derived.Test.YtcfbmimjffkgdaaLists
open Go Go.Proofs
namespace Go.Sx
set_option linter.unusedSimpArgs false
set_option linter.unusedVariables false

/-- A basis with its sources. -/
structure FlOk (p : Int) (N M : Nat) (B S : List (List Int)) : Prop where
  len : S.length = B.length
  bas : Bas p N B (ldN B)
  nn : ∀ k, k < B.length → 0 ≤ ldF (B.getD k [])
  src : rwsP p M S

/-- The boundary of the tuple with a place. -/
def btF (t : List (List Int)) (p : Int) (K : Nat) (i : Nat) : List Int := ptF t p (digN (t.length : Int) K (i : Int)) K

theorem btF_ok (t : List (List Int)) {p : Int} (hp : 2 ≤ p) (K i : Nat) : rwP p (t.length ^ (K - 1)) (btF t p K i) :=
  ⟨by unfold btF; rw [ptF_length, digN_length], by unfold btF; exact ptF_in t hp _ _⟩

end Go.Sx
