/- States with deep objects: weaker words for them, the end of a function that makes them. -/
import Derived.Test.YtfoapolbgpjfaaaGreatDoorPWad
set_option linter.unusedSectionVars false
set_option linter.unusedSimpArgs false
set_option linter.unusedVariables false
set_option maxRecDepth 100000
namespace Go.PW
variable [GF]
open Go.RowKit
inductive MW:MObj→MObj→Prop
 | refl (m:MObj):MW m m
 | dead (m:MObj):MW m .dead
 | prow (E sz n:Nat) (c c':Nat→Nat→PV) (h:∀ j k,j < n→k < sz→Wk (c j k) (c' j k)):MW (.prow E sz n c) (.prow E sz n c')
 | rowp (E sz n:Nat) (xs:List RV) (c:Nat→Nat→PV) (hn:xs.length=n) (h:∀ j k,j < n→k < sz→Wk (.val ((xs.getD j .nilptr).cells.getD k .nilptr)) (c j k)):MW (.row E sz xs) (.prow E sz n c)
theorem MW.of {a b:MObj} (h:a=b):MW a b:=h ▸ .refl a
end Go.PW
