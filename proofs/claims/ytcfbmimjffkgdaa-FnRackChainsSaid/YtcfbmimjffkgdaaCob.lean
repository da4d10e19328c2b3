/- Cob -/
import Derived.Test.YtcfbmimjffkgdaaTable
open Go Go.Proofs
namespace Go.Sx
set_option linter.unusedSimpArgs false
set_option linter.unusedVariables false

end Go.Sx
