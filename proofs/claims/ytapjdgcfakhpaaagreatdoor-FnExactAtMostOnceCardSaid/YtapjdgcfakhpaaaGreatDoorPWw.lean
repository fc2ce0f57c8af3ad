/- Calls that hand back a row, and functions that write a row. -/
import Derived.Test.YtapjdgcfakhpaaaGreatDoorPWv
set_option linter.unusedSectionVars false
set_option linter.unusedSimpArgs false
set_option linter.unusedVariables false
namespace Go.PW
open Go.RowKit
variable [GF]
def RetO (res:List Rs) (mk:Nat→PV) (E sz:Nat) (xs:List RV):PExit→St→Prop
 | .normal,st=>∃ id,a02 res st=some (mk id)∧st.mem id=.row E sz xs
 | .ret,st=>∃ id,a02 res st=some (mk id)∧st.mem id=.row E sz xs
 | _,_=>False
@[simp] theorem RetO_ret {res mk E sz xs} {st:St}:RetO res mk E sz xs .ret st=∃ id,a02 res st=some (mk id)∧st.mem id=.row E sz xs:=by rfl
@[simp] theorem RetO_normal {res mk E sz xs} {st:St}:RetO res mk E sz xs .normal st=∃ id,a02 res st=some (mk id)∧st.mem id=.row E sz xs:=by rfl
theorem RepP.nm {γ:Nat→Value} {L:Nat→Prop} {w:World} {n:Nat} {p:PV} {v:Value} (h:RepP (fun _=>γ n) L w p v):RepP γ L w (p.nm n) v:=by
 generalize hg:(fun _:Nat=>γ n)=γ' at h
 induction h with
 | undef v=>exact .undef v
 | skip=>exact .skip
 | val r v h=>exact .val r v h
 | emp s=>exact .emp s
 | own id v h=>exact .own n v (by rw [h,← hg])
 | ptr id off b h=>exact .ptr n off b (by rw [← hg] at h;exact h)
 | elt id j sz off b m c h=>exact .elt n j sz off b m c (by rw [← hg] at h;exact h)
 | «at» cells b o f hb h0 hc h=>exact .at cells b o f hb h0 hc h
 | agg cs vs hs _ ih=>exact .agg _ vs (by rw [PV.nmL_length];exact hs) (fun i hi=>by rw [PV.nmL_length] at hi;rw [PV.nmL_getD _ _ _ hi];exact ih i hi)
 | tup cs vs hs _ ih=>exact .tup _ vs (by rw [PV.nmL_length];exact hs) (fun i hi=>by rw [PV.nmL_length] at hi;rw [PV.nmL_getD _ _ _ hi];exact ih i hi)
 | fn f cs vs hs _ ih=>exact .fn f _ vs (by rw [PV.nmL_length];exact hs) (fun i hi=>by rw [PV.nmL_length] at hi;rw [PV.nmL_getD _ _ _ hi];exact ih i hi)
def RetR (res:List Rs) (out:RV) (E sz:Nat) (xs:List RV):PExit→St→Prop
 | .normal,st=>a02 res st=some (.val out)∧st.mem 900=.row E sz xs
 | .ret,st=>a02 res st=some (.val out)∧st.mem 900=.row E sz xs
 | _,_=>False
@[simp] theorem RetR_ret {res out E sz xs} {st:St}:RetR res out E sz xs .ret st=(a02 res st=some (.val out)∧st.mem 900=.row E sz xs):=by rfl
@[simp] theorem RetR_normal {res out E sz xs} {st:St}:RetR res out E sz xs .normal st=(a02 res st=some (.val out)∧st.mem 900=.row E sz xs):=by rfl
end Go.PW
