/- Ej: merged out of KJl. -/
import Derived.Test.YtnopddgnkefljaaGreatDoorEa
import Derived.Test.YtnopddgnkefljaaGreatDoorAc
import Derived.Test.YtnopddgnkefljaaGreatDoorShelf
import Derived.Shelf.Strings.OnBuilder

/- strings.Join. -/
section
set_option maxRecDepth 100000
set_option linter.unusedVariables false
set_option linter.unusedSectionVars false
set_option linter.unusedSimpArgs false
namespace Go.Proofs
open Go.PW Go.KP Go.RowKit
variable [GH]

end Go.Proofs
end
