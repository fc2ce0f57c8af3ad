/- Cb: merged out of KSm. -/
import Derived.Test.YtfoapolbgpjfaaaGreatDoorCa
set_option linter.unusedSectionVars false
set_option linter.unusedSimpArgs false
set_option linter.unusedVariables false
set_option maxRecDepth 100000
section
namespace Go.Proofs
open Go.PW Go.KP
attribute [local simp] RV.cells RV.one PV.cells PV.solid PV.one o9 d9 l4 l0 RV.ofCells elems PV.killL
variable [GF]
structure MK (st:St) (rules:List LRule) (rt:Tx) (acc:List Tx):Prop where
 e0:st.env 0=.val (.list 2 (rules.map a5u))
 e2:st.env 2=.ptr 2 0
 e3:st.env 3=.ptr 3 0
 m2:st.mem 2=.box [.val (tx []),.emp 1,.emp 2]
 m3:st.mem 3=.box [.val (tx rt),.own 9,.val (.list 2 (rules.map a5u))]
 m9:st.mem 9=.row 9 1 (acc.map tx)
end Go.Proofs
end
