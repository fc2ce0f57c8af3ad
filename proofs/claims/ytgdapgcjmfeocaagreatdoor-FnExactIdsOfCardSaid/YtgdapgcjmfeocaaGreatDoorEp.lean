/- Ep: merged out of KJu. -/
import Derived.Test.YtgdapgcjmfeocaaGreatDoorEh
import Derived.Test.YtgdapgcjmfeocaaGreatDoorAc
import Derived.Test.YtgdapgcjmfeocaaGreatDoorBa
set_option linter.unusedSectionVars false
set_option linter.unusedSimpArgs false
set_option linter.unusedVariables false
set_option maxRecDepth 100000
section
namespace Go.Proofs
open Go.PW Go.KP
variable [GH]
end Go.Proofs
end
