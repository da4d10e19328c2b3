/- Ext Inc -/
import Derived.Test.YtjkbnanffneogaaRackC
import Derived.Test.YtjkbnanffneogaaLists
section
open Go Go.Proofs
namespace Go.Sx
set_option linter.unusedSimpArgs false
set_option linter.unusedVariables false
theorem div_in {a n m:Int} (hm:1≤m) (h0:0≤a) (h:a<n * m):0≤a.tdiv m∧a.tdiv m<n∧0≤a.tmod m∧a.tmod m≤m - 1:=by
  have e1:a.tdiv m=a / m:=Int.tdiv_eq_ediv_of_nonneg h0
  rw [e1]
  have q:=tmod_in h0 hm
  exact ⟨Int.ediv_nonneg h0 (by omega),Int.ediv_lt_of_lt_mul (by omega) h,q.1,q.2⟩
end Go.Sx
end
section
open Go Go.Proofs
namespace Go.Sx
set_option linter.unusedSimpArgs false
set_option linter.unusedVariables false
def unitL (n:Nat):List Int:=tab n fun i=>(i:Int)
end Go.Sx
end
