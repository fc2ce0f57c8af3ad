/- Calls that make, or use up, deep objects under names told by a formula. -/
import Derived.Test.YtfoapolbgpjfaaaGreatDoorPWae
set_option linter.unusedSectionVars false
set_option linter.unusedSimpArgs false
set_option linter.unusedVariables false
set_option maxRecDepth 100000
namespace Go.PW
variable [GF]
open Go.RowKit
end Go.PW
