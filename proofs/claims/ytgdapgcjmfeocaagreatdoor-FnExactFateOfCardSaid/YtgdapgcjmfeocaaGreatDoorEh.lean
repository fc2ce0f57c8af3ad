/- Eh: merged out of IRff, IRcc, KJa, KJb. -/
import Derived.Test.YtgdapgcjmfeocaaGreatDoorPWv
import Derived.Test.YtgdapgcjmfeocaaGreatDoorChecked
import Derived.KernelRfl
import Derived.Test.YtgdapgcjmfeocaaGreatDoorCa
import Derived.Test.YtgdapgcjmfeocaaGreatDoorAc
import Derived.Test.YtgdapgcjmfeocaaGreatDoorEg
section
set_option maxRecDepth 100000
namespace Go.Proofs
open Go.PW Go.PW.I
end Go.Proofs
end
section
set_option maxRecDepth 100000
namespace Go.Proofs
open Go.PW Go.PW.I
end Go.Proofs
end
section
set_option maxRecDepth 100000
set_option linter.unusedVariables false
set_option linter.unusedSectionVars false
set_option linter.unusedSimpArgs false
namespace Go.Proofs
open Go.PW Go.KP
variable [GF]
end Go.Proofs
end
section
set_option maxRecDepth 100000
set_option linter.unusedVariables false
set_option linter.unusedSectionVars false
set_option linter.unusedSimpArgs false
namespace Go.Proofs
open Go.PW Go.KP
attribute [local simp] RV.cells RV.one PV.cells PV.solid PV.one vals? allVal mkAgg setAt RV.ofCells elems PV.killL
variable [GH]
end Go.Proofs
end
