/- Ff: merged out of KXf, KXg. -/
import Derived.Test.YtapjdgcfakhpaaaGreatDoorFd
import Derived.Test.YtapjdgcfakhpaaaGreatDoorFc
import Derived.Test.YtapjdgcfakhpaaaGreatDoorEg
import Derived.Test.YtapjdgcfakhpaaaGreatDoorCc
import Derived.Test.YtapjdgcfakhpaaaGreatDoorBa
import Derived.Test.YtapjdgcfakhpaaaGreatDoorEp
set_option linter.unusedSectionVars false
set_option linter.unusedSimpArgs false
set_option linter.unusedVariables false
set_option maxRecDepth 100000
section
namespace Go.Proofs
open Go.PW Go.KP
variable [GH]
attribute [local simp] a6k b1q b7o b7p b7n b4y a3z b2g a74 b6l b0r b2o a8t dK_lo dK_DN dM_lo dM_DN inR A1
end Go.Proofs
end
section
namespace Go.Proofs
open Go.PW Go.KP
attribute [local simp] RV.cells RV.one PV.cells PV.solid PV.one G1 i6 L8 K7 RV.ofCells elems PV.killL
variable [GH]
end Go.Proofs
end
