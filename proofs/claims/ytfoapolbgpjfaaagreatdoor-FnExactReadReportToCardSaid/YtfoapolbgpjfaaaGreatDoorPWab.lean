/- The caller's side of a call that is handed objects, all of them kept where they are. -/
import Derived.Test.YtfoapolbgpjfaaaGreatDoorPWaa
set_option linter.unusedSectionVars false
set_option linter.unusedSimpArgs false
set_option linter.unusedVariables false
set_option maxRecDepth 100000
namespace Go.PW
variable [GF]
open Go.RowKit
def hands (n:Nat) (O:Nat→MObj) (i:Nat):MObj:=if 900≤i∧i < 900+n then O (i - 900) else .dead
end Go.PW
