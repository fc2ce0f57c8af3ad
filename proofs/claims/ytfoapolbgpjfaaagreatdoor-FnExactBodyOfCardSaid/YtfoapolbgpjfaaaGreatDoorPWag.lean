/- Deep objects read as data by a call; functions whose result is a new row, or nil taken for one. -/
import Derived.Test.YtfoapolbgpjfaaaGreatDoorPWaf
set_option linter.unusedSectionVars false
set_option linter.unusedSimpArgs false
set_option linter.unusedVariables false
set_option maxRecDepth 100000
namespace Go.PW
variable [GF]
open Go.RowKit
def RetA (res:List Rs) (mk:Nat→PV) (E sz:Nat) (xs:List RV):PExit→St→Prop
 | .normal,st=>∃ st',Le st st'∧∃ id,J8 res st'=some (mk id)∧st'.mem id=.row E sz xs
 | .ret,st=>∃ st',Le st st'∧∃ id,J8 res st'=some (mk id)∧st'.mem id=.row E sz xs
 | _,_=>False
@[simp] theorem RetA_ret {res mk E sz xs} {st:St}:RetA res mk E sz xs .ret st=∃ st',Le st st'∧∃ id,J8 res st'=some (mk id)∧st'.mem id=.row E sz xs:=by rfl
@[simp] theorem RetA_normal {res mk E sz xs} {st:St}:RetA res mk E sz xs .normal st=∃ st',Le st st'∧∃ id,J8 res st'=some (mk id)∧st'.mem id=.row E sz xs:=by rfl
end Go.PW
