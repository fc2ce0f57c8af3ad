/- Deep objects: rows of rows under names told by a formula; a call that reads them as data. -/
import Derived.Test.YtapjdgcfakhpaaaGreatDoorPWac
set_option linter.unusedSectionVars false
set_option linter.unusedSimpArgs false
set_option linter.unusedVariables false
set_option maxRecDepth 100000
namespace Go.PW
variable [GF]
open Go.RowKit
inductive Res (M:Nat→MObj):PV→RV→Prop
 | val (r:RV):Res M (.val r) r
 | emp (sz:Nat):Res M (.emp sz) (.list sz [])
 | row (id E sz:Nat) (xs:List RV) (h:M id=.row E sz xs):Res M (.own id) (.list sz xs)
 | prow (id E sz n:Nat) (c:Nat→Nat→PV) (xs:List RV) (h:M id=.prow E sz n c) (hn:xs.length=n) (hx:∀ x∈xs,x.cells.length=sz)
  (hc:∀ j k,j < n→k < sz→Res M (c j k) ((xs.getD j .nilptr).cells.getD k .nilptr)):Res M (.own id) (.list sz xs)
 | agg (cs:List PV) (rs:List RV) (hl:cs.length=rs.length) (h:∀ i,i < cs.length→Res M (cs.getD i .undef) (rs.getD i .nilptr)):Res M (.agg cs) (.agg rs)
def DN (k j:Nat):Nat:=1000001+4*(16*j+k)
def isD (x:Nat):Bool:=decide (1000000≤x) && x % 4 == 1
def dk (x:Nat):Nat:=((x - 1000001) / 4) % 16
def dj (x:Nat):Nat:=((x - 1000001) / 4) / 16
def isJ (x:Nat):Bool:=decide (1000000≤x) && x % 4 == 2
theorem b0b {k j:Nat}:isD (DN k j)=true:=by unfold isD DN;simp only [Bool.and_eq_true,decide_eq_true_eq,beq_iff_eq];omega
theorem DN_dk {k j:Nat} (hk:k < 16):dk (DN k j)=k:=by simp [dk,DN];omega
theorem DN_dj {k j:Nat} (hk:k < 16):dj (DN k j)=j:=by simp [dj,DN];omega
theorem c2y {k j n:Nat} (h:n < 1000000):(DN k j=n)=False:=eq_false (by unfold DN;omega)
theorem b6s {k j n:Nat} (h:n < 1000000):(n=DN k j)=False:=eq_false (by unfold DN;omega)
theorem b6t {k j k' j':Nat} (hk:k < 16) (hk':k' < 16):(DN k j=DN k' j')=(k=k'∧j=j'):=propext ⟨fun h=>by unfold DN at h;omega,fun h=>by rw [h.1,h.2]⟩
theorem DN_isJ {k j:Nat}:isJ (DN k j)=false:=by
 cases h:isJ (DN k j) with
 | false=>rfl
 | true=>unfold isJ DN at h;simp only [Bool.and_eq_true,decide_eq_true_eq,beq_iff_eq] at h;omega
theorem isJ_lo {n:Nat} (h:n < 1000000):isJ n=false:=by simp [isJ];omega
theorem a90 {n:Nat} (h:n < 1000000):isD n=false:=by simp [isD];omega
def jT (T:Nat→Bool) (x:Nat):Bool:=isJ x && !T ((x - 1000002) / 4)
def newT (T N:Nat→Bool) (x:Nat):Bool:=N x || jT T x
theorem jT_lo {T:Nat→Bool} {n:Nat} (h:n < 1000000):jT T n=false:=by unfold jT;rw [isJ_lo h];rfl
theorem jT_DN {T:Nat→Bool} {k j:Nat}:jT T (DN k j)=false:=by unfold jT;rw [DN_isJ];rfl
end Go.PW
