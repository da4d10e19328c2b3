/- Table -/
import Derived.Test.YtocfgmeogdchpaaLists
open Go Go.Proofs
namespace Go.Sx
set_option linter.unusedSimpArgs false
set_option linter.unusedVariables false

theorem at_getD {α : Type} (a b : List α) (r d : α) (i : Nat) (h : a.length = i) : (a ++ r :: b).getD i d = r := by
  rw [getD_append_right' _ _ _ _ (by omega), h, Nat.sub_self]; rfl

theorem at_set {α : Type} (a b : List α) (r v : α) (i : Nat) (h : a.length = i) : (a ++ r :: b).set i v = a ++ v :: b := by
  rw [List.set_append_right _ _ (by omega), h, Nat.sub_self]; rfl

end Go.Sx
