/- Ep: merged out of KJu, KJw. -/
import Derived.Test.YtapjdgcfakhpaaaGreatDoorEh
import Derived.Test.YtapjdgcfakhpaaaGreatDoorAc
import Derived.Test.YtapjdgcfakhpaaaGreatDoorBa
import Derived.Test.YtapjdgcfakhpaaaGreatDoorPWac
set_option linter.unusedSectionVars false
set_option linter.unusedSimpArgs false
set_option linter.unusedVariables false
set_option maxRecDepth 100000
section
namespace Go.Proofs
open Go.PW Go.KP
variable [GH]
end Go.Proofs
end
section
namespace Go.Proofs
open Go.PW Go.KP
variable [GH]
theorem b4h {n:Nat} {f:Nat→Bool} (h:a0q n f=true) (i:Nat) (hi:i < n):f i=true:=by
 unfold a0q at h
 exact List.all_eq_true.1 h i (List.mem_range.2 hi)
end Go.Proofs
end
