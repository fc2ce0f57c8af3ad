/- Functions that put off a call (one deferred closure over their results). -/
import Derived.Test.YtfoapolbgpjfaaaGreatDoorPWai
import Derived.Defers
import Derived.Recover
set_option linter.unusedSectionVars false
set_option linter.unusedSimpArgs false
set_option linter.unusedVariables false
set_option maxRecDepth 100000
namespace Go.PW
variable [GF]
open Go.RowKit
def Ctx.off (F:Ctx) (dl:List Deferred):Ctx:={ F with dl:=dl }
theorem Inv.off {F:Ctx} {γ:Nat→Value} {st:St} {a:Act} {w:World} (hI:Inv F γ st a w) (dl:List Deferred):Inv (F.off dl) γ st { a with defers:=dl } w:=
 ⟨hI.sz,rfl,hI.env,⟨hI.mem.box,hI.mem.row,hI.mem.prow,hI.mem.map,hI.mem.inj⟩,⟨hI.fr.os,hI.fr.tape,hI.fr.output,hI.fr.size,hI.fr.block,hI.fr.hL,hI.fr.hpb,hI.fr.hn,hI.fr.hgb,hI.fr.hpo,hI.fr.hpn⟩,hI.gl,hI.pin,hI.pinr,hI.pinn⟩
def c5a (P:Program) (f:Nat) (c0 cr:PC) (nargs:Nat) (res:List Rs):Bool:=match P.funcs[f]? with
 | some fn=>(match fn.body with
  | some (.seq r0 (.seq _ rest))=>a1f P fn.results.toList res && decide (fn.ntmps≤900) && decide (nargs≤fn.ntmps) && a17 P fn.ntmps r0 c0 && a17 P fn.ntmps rest cr
  | _=>false)
 | none=>false
end Go.PW
