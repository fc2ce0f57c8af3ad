/- Fd: merged out of KXb, KXc, KXd, KXe. -/
import Derived.Test.YtapjdgcfakhpaaaGreatDoorFc
import Derived.Test.YtapjdgcfakhpaaaGreatDoorPWaf
import Derived.Test.YtapjdgcfakhpaaaGreatDoorPWag
set_option linter.unusedSectionVars false
set_option linter.unusedSimpArgs false
set_option linter.unusedVariables false
set_option maxRecDepth 100000
section
namespace Go.Proofs
open Go.PW Go.KP
attribute [local simp] RV.cells RV.one PV.cells PV.solid PV.one x6 j2 J4 I7 RV.ofCells elems PV.killL
variable [GF]
attribute [local simp] b4v b4u c19 c2a c17 c18 b25 b6i a90 c2y b6s b6t b0b
end Go.Proofs
end
section
namespace Go.Proofs
open Go.PW Go.KP
attribute [local simp] RV.cells RV.one PV.cells PV.solid PV.one x6 j2 J4 I7 RV.ofCells elems PV.killL
variable [GF]
attribute [local simp] b4v b4u c19 c2a c17 c18 b25 b6i a90 c2y b6s b6t b0b
end Go.Proofs
end
section
namespace Go.Proofs
open Go.PW Go.KP
attribute [local simp] RV.cells RV.one PV.cells PV.solid PV.one x6 j2 J4 I7 RV.ofCells elems PV.killL
variable [GF]
attribute [local simp] b4v b4u c19 c2a c17 c18 b25 b6i a90 c2y b6s b6t b0b
end Go.Proofs
end
section
namespace Go.Proofs
open Go.PW Go.KP
attribute [local simp] RV.cells RV.one PV.cells PV.solid PV.one x6 j2 J4 I7 RV.ofCells elems PV.killL
variable [GF]
attribute [local simp] b4v b4u c19 c2a c17 c18 b25 b6i a90 c2y b6s b6t b0b
end Go.Proofs
end
