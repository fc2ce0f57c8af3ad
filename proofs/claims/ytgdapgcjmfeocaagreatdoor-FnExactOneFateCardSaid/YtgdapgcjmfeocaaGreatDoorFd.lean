/- Fd: merged out of KXb, KXc, KXd, KXe. -/
import Derived.Test.YtgdapgcjmfeocaaGreatDoorFc
import Derived.Test.YtgdapgcjmfeocaaGreatDoorPWaf
import Derived.Test.YtgdapgcjmfeocaaGreatDoorPWag
set_option linter.unusedSectionVars false
set_option linter.unusedSimpArgs false
set_option linter.unusedVariables false
set_option maxRecDepth 100000
section
namespace Go.Proofs
open Go.PW Go.KP
attribute [local simp] RV.cells RV.one PV.cells PV.solid PV.one t8 f9 H0 A5 RV.ofCells elems PV.killL
variable [GF]
attribute [local simp] b1b b1a b7o b7p b7m b7n W4 b3d a79 Z0 T5 a5p a8r
end Go.Proofs
end
section
namespace Go.Proofs
open Go.PW Go.KP
attribute [local simp] RV.cells RV.one PV.cells PV.solid PV.one t8 f9 H0 A5 RV.ofCells elems PV.killL
variable [GF]
attribute [local simp] b1b b1a b7o b7p b7m b7n W4 b3d a79 Z0 T5 a5p a8r
end Go.Proofs
end
section
namespace Go.Proofs
open Go.PW Go.KP
attribute [local simp] RV.cells RV.one PV.cells PV.solid PV.one t8 f9 H0 A5 RV.ofCells elems PV.killL
variable [GF]
attribute [local simp] b1b b1a b7o b7p b7m b7n W4 b3d a79 Z0 T5 a5p a8r
end Go.Proofs
end
section
namespace Go.Proofs
open Go.PW Go.KP
attribute [local simp] RV.cells RV.one PV.cells PV.solid PV.one t8 f9 H0 A5 RV.ofCells elems PV.killL
variable [GF]
attribute [local simp] b1b b1a b7o b7p b7m b7n W4 b3d a79 Z0 T5 a5p a8r
end Go.Proofs
end
