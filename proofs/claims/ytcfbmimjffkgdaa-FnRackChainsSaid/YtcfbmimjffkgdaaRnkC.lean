/- RnkC -/
import Derived.Test.YtcfbmimjffkgdaaRnk
import Derived.Test.YtcfbmimjffkgdaaQb
open Go Go.Proofs
namespace Go.Sx
set_option linter.unusedSimpArgs false
set_option linter.unusedVariables false

end Go.Sx
