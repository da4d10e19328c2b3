/- NbL -/
import Derived.Test.YtcdmndagoafcgaaNbF
open Go Go.Proofs
namespace Go.Sx
set_option linter.unusedSimpArgs false
set_option linter.unusedVariables false

theorem nbCut {s : Int} {w : List Int} (h : braidB s w = true) : List.take (nbC s w) (List.drop (nbJ s w) (List.take (nbJ s w + nbC s w) (nbN s w) ++ List.replicate ((nbR s w).length - nbC s w) [])) = (nbR s w).take (nbC s w) := by
  have rl := nbR_len s w
  have jl : nbJ s w ≤ (nbN s w).length := ldH_le _ _
  have cl : nbC s w ≤ (nbR s w).length := ctU_le _ _
  have l1 : (List.take (nbJ s w + nbC s w) (nbN s w)).length = nbJ s w + nbC s w := by rw [List.length_take]; omega
  rw [List.drop_append_of_le_length (by omega), List.take_append_of_le_length (by rw [List.length_drop]; omega), List.drop_take, Nat.add_sub_cancel_left, List.take_take, Nat.min_self]
  rfl



end Go.Sx
