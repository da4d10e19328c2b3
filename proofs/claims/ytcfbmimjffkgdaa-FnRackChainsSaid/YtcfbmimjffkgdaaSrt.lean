/- Srt -/
import Derived.Test.YtcfbmimjffkgdaaCmp
import Derived.Shelf.SlSortCmp.NoneTotal
import Derived.Lib.OwnBridge
open Go Go.Proofs Go.RowKit Go.Shelf
namespace Go.Sx
set_option linter.unusedSimpArgs false
set_option linter.unusedVariables false

set_option maxRecDepth 100000
end Go.Sx
