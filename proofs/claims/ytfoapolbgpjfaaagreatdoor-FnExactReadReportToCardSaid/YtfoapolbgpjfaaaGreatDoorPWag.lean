/- Deep objects read as data by a call; functions whose result is a new row, or nil taken for one. -/
import Derived.Test.YtfoapolbgpjfaaaGreatDoorPWaf
set_option linter.unusedSectionVars false
set_option linter.unusedSimpArgs false
set_option linter.unusedVariables false
set_option maxRecDepth 100000
namespace Go.PW
variable [GF]
open Go.RowKit
def c24 (res:List Rs) (mk:Nat→PV) (E sz:Nat) (xs:List RV):PExit→St→Prop
 | .normal,st=>∃ st',Le st st'∧∃ id,R1 res st'=some (mk id)∧st'.mem id=.row E sz xs
 | .ret,st=>∃ st',Le st st'∧∃ id,R1 res st'=some (mk id)∧st'.mem id=.row E sz xs
 | _,_=>False
@[simp] theorem RetA_ret {res mk E sz xs} {st:St}:c24 res mk E sz xs .ret st=∃ st',Le st st'∧∃ id,R1 res st'=some (mk id)∧st'.mem id=.row E sz xs:=by rfl
@[simp] theorem RetA_normal {res mk E sz xs} {st:St}:c24 res mk E sz xs .normal st=∃ st',Le st st'∧∃ id,R1 res st'=some (mk id)∧st'.mem id=.row E sz xs:=by rfl
theorem c5d {P:Program} {f:Nat} {c:PC} {res:List Rs} {as:List AV} {mk:Nat→PV} {E sz:Nat} {xs:List RV} (hm:P.follows .mixedOrders=true) (hc:N5 P f c as.length res=true) (hb:b9 as=[]) (hmk:∀ ι:Nat→Nat,(mk 0).ren ι=mk (ι 0))
 (h:W4 P c (w8 as) (c24 res mk E sz xs)):z6 P f as (.ret (mk 0) [⟨E,sz,xs⟩]) []:=by
 refine b0m hm hc (V5 (fun e s hh=>?_) h)
 have key:(∃ s',Le s s'∧∃ id,R1 res s'=some (mk id)∧s'.mem id=.row E sz xs)→∃ st',Le s st'∧b5q res (b9 as).length (.ret (mk 0) [⟨E,sz,xs⟩]) [] .ret st':=fun ⟨s',hle,id,h1,h2⟩=>
  ⟨s',hle,(by rw [hb]),⟨⟨fun _=>id,by rw [hmk];exact h1,fun i j hi hj _=>by simp at hi hj;omega,fun i r hr=>by
   have:i=0:=by
    have:=(List.getElem?_eq_some_iff.1 hr).1
    simp at this;exact this
   subst this
   simp at hr;subst hr;exact h2⟩,trivial⟩⟩
 cases e with
 | normal=>exact key hh
 | ret=>exact key hh
 | exit id=>exact hh.elim
 | pan r=>exact hh.elim
end Go.PW
