/- The caller's side of a call that hands back one new object (a map, a row). -/
import Derived.Test.YtfoapolbgpjfaaaGreatDoorPWab
set_option linter.unusedSectionVars false
set_option linter.unusedSimpArgs false
set_option linter.unusedVariables false
set_option maxRecDepth 100000
namespace Go.PW
variable [GF]
open Go.RowKit
end Go.PW
