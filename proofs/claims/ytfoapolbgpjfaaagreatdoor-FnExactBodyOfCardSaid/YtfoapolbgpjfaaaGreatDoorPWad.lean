/- Deep objects: rows of rows under names told by a formula; a call that reads them as data. -/
import Derived.Test.YtfoapolbgpjfaaaGreatDoorPWac
set_option linter.unusedSectionVars false
set_option linter.unusedSimpArgs false
set_option linter.unusedVariables false
set_option maxRecDepth 100000
namespace Go.PW
variable [GF]
open Go.RowKit
inductive Res (M:Nat→MObj):PV→RV→Prop
 | val (r:RV):Res M (.val r) r
 | emp (sz:Nat):Res M (.emp sz) (.list sz [])
 | row (id E sz:Nat) (xs:List RV) (h:M id=.row E sz xs):Res M (.own id) (.list sz xs)
 | prow (id E sz n:Nat) (c:Nat→Nat→PV) (xs:List RV) (h:M id=.prow E sz n c) (hn:xs.length=n) (hx:∀ x∈xs,x.cells.length=sz)
  (hc:∀ j k,j < n→k < sz→Res M (c j k) ((xs.getD j .nilptr).cells.getD k .nilptr)):Res M (.own id) (.list sz xs)
 | agg (cs:List PV) (rs:List RV) (hl:cs.length=rs.length) (h:∀ i,i < cs.length→Res M (cs.getD i .undef) (rs.getD i .nilptr)):Res M (.agg cs) (.agg rs)
end Go.PW
