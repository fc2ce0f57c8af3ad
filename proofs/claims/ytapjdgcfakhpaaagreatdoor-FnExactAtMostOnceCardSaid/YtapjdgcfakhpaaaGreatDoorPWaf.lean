/- Calls that make, or use up, deep objects under names told by a formula. -/
import Derived.Test.YtapjdgcfakhpaaaGreatDoorPWae
set_option linter.unusedSectionVars false
set_option linter.unusedSimpArgs false
set_option linter.unusedVariables false
set_option maxRecDepth 100000
namespace Go.PW
variable [GF]
open Go.RowKit
def TD (T:Nat→Nat→Bool) (x:Nat):Bool:=isD x && T (dk x) (dj x)
theorem b4v {T:Nat→Nat→Bool} {k j:Nat} (hk:k < 16):TD T (DN k j)=T k j:=by unfold TD;rw [b0b,DN_dk hk,DN_dj hk];rfl
theorem b4u {T:Nat→Nat→Bool} {n:Nat} (h:n < 1000000):TD T n=false:=by unfold TD;rw [a90 h];rfl
def nK (T:Nat→Nat→Bool):Nat→Bool:=newT (TD T) (TD T)
theorem c19 {T:Nat→Nat→Bool} {n:Nat} (h:n < 1000000):nK T n=false:=by unfold nK newT;rw [b4u h,jT_lo h];rfl
theorem c2a {T:Nat→Nat→Bool} {k j:Nat} (hk:k < 16):nK T (DN k j)=T k j:=by unfold nK newT;rw [b4v hk,jT_DN];simp
def nM (T:Nat→Nat→Bool) (G:Nat→Nat→MObj) (m:Nat→MObj) (x:Nat):MObj:=if TD T x then dyn G x else if jT (TD T) x then .dead else (m x).kill (nK T)
theorem c17 {T:Nat→Nat→Bool} {G:Nat→Nat→MObj} {m:Nat→MObj} {n:Nat} (h:n < 1000000):nM T G m n=(m n).kill (nK T):=by unfold nM;rw [b4u h,jT_lo h];rfl
theorem c18 {T:Nat→Nat→Bool} {G:Nat→Nat→MObj} {m:Nat→MObj} {k j:Nat} (hk:k < 16):nM T G m (DN k j)=if T k j then G k j else (m (DN k j)).kill (nK T):=by
 unfold nM
 rw [b4v hk,b25 hk]
 by_cases h:T k j=true
 · rw [if_pos h,if_pos h]
 · rw [if_neg h,if_neg h,jT_DN];rfl
end Go.PW
