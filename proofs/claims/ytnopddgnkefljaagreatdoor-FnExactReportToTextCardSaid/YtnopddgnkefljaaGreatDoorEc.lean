/- Ec: merged out of KLc, KIm, KIn. -/
import Derived.Test.YtnopddgnkefljaaGreatDoorEa
import Derived.Shelf.Strings.IndexAnyAll
import Derived.Laws.Runes
import Derived.Laws.RangeAny
import Derived.Lib.QuoteLoop
import Derived.WalkMore
import Derived.Lib.OthersKept
import Derived.Deep.QuietTactic
import Derived.BigQuiet
import Derived.Deep.DeepBigQuietO
import Derived.Shelf.RegionOpenPlain
import Derived.Test.YtnopddgnkefljaaGreatDoorCa
import Derived.Test.YtnopddgnkefljaaGreatDoorAc
import Derived.Test.YtnopddgnkefljaaGreatDoorBb
import Derived.Test.YtnopddgnkefljaaGreatDoorEb
import Derived.Test.YtnopddgnkefljaaGreatDoorCb

/- strings.IndexRune at a rune that is no ASCII byte; strings.ContainsAny at every text, of ASCII signs. -/
section
set_option linter.unusedVariables false
namespace Go.Proofs
open Go.Shelf Go.RowKit Go.Lib
variable {P : Program} {ρ : Ren}

/-! ### Of a rune that is no ASCII byte all bytes are beyond ASCII -/
open Go.PW Go.KP
variable [GH]
end Go.Proofs
end

/- What slices.* come to at some element types. MADE BY PROGRAM (gen_slices.py). -/
section
set_option maxRecDepth 100000
set_option linter.unusedVariables false
set_option linter.unusedSectionVars false
set_option linter.unusedSimpArgs false
namespace Go.Proofs
open Go.PW Go.KP
attribute [local simp] RV.cells RV.one PV.cells PV.solid PV.one vals? allVal mkAgg setAt RV.ofCells elems PV.killL
variable [GF]

end Go.Proofs
end

/- What the program's look at names, rules and policies comes to. -/
section
set_option maxRecDepth 100000
set_option linter.unusedVariables false
set_option linter.unusedSectionVars false
set_option linter.unusedSimpArgs false
namespace Go.Proofs
open Go.PW Go.KP
attribute [local simp] RV.cells RV.one PV.cells PV.solid PV.one vals? allVal mkAgg setAt RV.ofCells elems PV.killL
variable [GH]

structure MS (st : St) (rt : Tx) (acc : List Tx) (rules : List LRule) : Prop where
  e1 : st.env 1 = .ptr 1 0
  e2 : st.env 2 = .ptr 2 0
  m2 : st.mem 2 = .box [.val (tx []), .emp 1, .emp 2]
  m1 : st.mem 1 = .box [.val (tx rt), ownOr 1 55 acc, .val (.list 2 (rules.map rvRule))]
  m55 : acc ≠ [] → st.mem 55 = .row 9 1 (acc.map tx)

end Go.Proofs
end
