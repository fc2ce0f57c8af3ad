/- THE LAW OF A CALL that is handed objects: the callee's side. -/
import Derived.Test.YtapjdgcfakhpaaaGreatDoorPWw
set_option linter.unusedSectionVars false
set_option linter.unusedSimpArgs false
set_option linter.unusedVariables false
namespace Go.PW
variable [GF]
open Go.RowKit
end Go.PW
