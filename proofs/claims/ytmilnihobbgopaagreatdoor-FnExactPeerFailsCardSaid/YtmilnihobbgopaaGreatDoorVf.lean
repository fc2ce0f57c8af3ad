/- Vf: merged out of IRi, KSn, KIp, KVExactPeerFails. -/
import Derived.Test.YtmilnihobbgopaaGreatDoorPWv
import Derived.Test.YtmilnihobbgopaaGreatDoorChecked
import Derived.KernelRfl
import Derived.Test.YtmilnihobbgopaaGreatDoorCd
import Derived.Test.YtmilnihobbgopaaGreatDoorAc
import Derived.Test.YtmilnihobbgopaaGreatDoorEd
import Derived.Test.YtmilnihobbgopaaGreatDoorBc
import Derived.Test.YtmilnihobbgopaaGreatDoorFb
import Derived.Test.YtmilnihobbgopaaGreatDoorTie
import Derived.Test.YtmilnihobbgopaaGreatDoorCards
import Derived.SevenTiedAt
import Derived.ChangeMaps5

/- Functions of the seat as data. MADE BY PROGRAM (print_ir.py). -/
section
set_option maxRecDepth 100000
namespace Go.Proofs
open Go.PW

/-- loop.example/g00779/spec.l07Leave -/
def ir85 : PC :=
 .seq (
 .reg [
   ⟨some 4, .mov (.k (.emp 6)), none⟩]) (
 .seq (
 .reg [
   ⟨some 6, .mov (.t 0), none⟩,
   ⟨some 7, .mov (.t 1), none⟩,
   ⟨some 8, .iaddr 6 (.t 6) (.t 7), none⟩,
   ⟨some 9, .load true 6 (.t 8), none⟩,
   ⟨some 5, .alloc [.val (.str ⟨#[]⟩), .val (.int .i64 0), .val (.int .i64 0), .val (.int .i64 0), .val (.int .i64 0), .val (.bool false)], none⟩,
   ⟨none, .store 6 (.t 5) (.t 9), none⟩]) (
 .seq (
 .reg [
   ⟨some 10, .faddr 5 (.t 5), none⟩,
   ⟨none, .store 1 (.t 10) (.k (.val (.bool true))), none⟩]) (
 .seq (
 .reg [
   ⟨some 11, .mov (.t 0), none⟩,
   ⟨some 12, .mov (.t 1), none⟩,
   ⟨some 13, .load true 6 (.t 5), none⟩,
   ⟨some 14, .call 157 [.t 11, .t 12, .t 13], none⟩,
   ⟨some 4, .mov (.t 14), none⟩]) (
 .ret))))
theorem ok85 : chkFn Tryz.prog 85 ir85 2 [.t 4] = true := by kernel_rfl

/-- loop.example/g00779/spec.PeerGone -/
def ir31 : PC :=
 .seq (
 .reg [
   ⟨some 4, .mov (.k (.emp 6)), none⟩,
   ⟨some 5, .mov (.k (.val (.int .i64 0))), none⟩]) (
 .seq (
 .seq (
 .reg [
   ⟨some 7, .mov (.t 0), none⟩,
   ⟨some 8, .len (.t 7), none⟩,
   ⟨some 9, .bin .gtr (.t 8) (.k (.val (.int .i64 4096))), none⟩]) (
 .cond (.t 9) (
  .seq (
  .reg [
    ⟨some 10, .lit 67 6 [], none⟩,
    ⟨some 4, .mov (.t 10), none⟩,
    ⟨some 5, .mov (.k (.val (.int .i64 2))), none⟩]) (
  .ret)) (
  .skip))) (
 .seq (
 .seq (
 .reg [
   ⟨some 11, .mov (.t 0), none⟩,
   ⟨some 12, .mov (.t 1), none⟩,
   ⟨some 13, .call 79 [.t 11, .t 12], none⟩,
   ⟨some 6, .mov (.t 13), none⟩]) (
 .seq (
 .reg [
   ⟨some 14, .mov (.t 6), none⟩,
   ⟨some 15, .bin .neq (.t 14) (.k (.val (.int .i64 0))), none⟩]) (
 .cond (.t 15) (
  .seq (
  .reg [
    ⟨some 16, .lit 67 6 [], none⟩,
    ⟨some 17, .mov (.t 6), none⟩,
    ⟨some 4, .mov (.t 16), none⟩,
    ⟨some 5, .mov (.t 17), none⟩]) (
  .ret)) (
  .skip)))) (
 .seq (
 .seq (
 .reg [
   ⟨some 18, .mov (.t 0), none⟩,
   ⟨some 19, .mov (.t 1), none⟩,
   ⟨some 20, .iaddr 6 (.t 18) (.t 19), none⟩,
   ⟨some 21, .faddr 5 (.t 20), none⟩,
   ⟨some 22, .load false 1 (.t 21), none⟩]) (
 .cond (.t 22) (
  .seq (
  .reg [
    ⟨some 23, .lit 67 6 [], none⟩,
    ⟨some 24, .mov (.t 0), none⟩,
    ⟨some 25, .app 67 6 56 (.t 23) (.t 24), none⟩,
    ⟨some 4, .mov (.t 25), none⟩,
    ⟨some 5, .mov (.k (.val (.int .i64 15))), none⟩]) (
  .ret)) (
  .skip))) (
 .seq (
 .reg [
   ⟨some 26, .mov (.t 0), none⟩,
   ⟨some 27, .mov (.t 1), none⟩,
   ⟨some 28, .call 85 [.t 26, .t 27], none⟩,
   ⟨some 4, .mov (.t 28), none⟩,
   ⟨some 5, .mov (.k (.val (.int .i64 0))), none⟩]) (
 .ret)))))
theorem ok31 : chkFn Tryz.prog 31 ir31 2 [.t 4, .t 5] = true := by kernel_rfl

/-- loop.example/g00779/impl.PeerGone -/
def ir32 : PC :=
 .seq (
 .reg [
   ⟨some 4, .mov (.k (.emp 6)), none⟩,
   ⟨some 5, .mov (.k (.val (.int .i64 0))), none⟩]) (
 .seq (
 .seq (
 .reg [
   ⟨some 8, .mov (.t 0), none⟩,
   ⟨some 9, .mov (.t 1), none⟩,
   ⟨some 10, .call 82 [.t 8, .t 9], none⟩,
   ⟨some 6, .mov (.t 10), none⟩]) (
 .seq (
 .reg [
   ⟨some 11, .mov (.t 6), none⟩,
   ⟨some 12, .bin .neq (.t 11) (.k (.val (.int .i64 0))), none⟩]) (
 .cond (.t 12) (
  .seq (
  .reg [
    ⟨some 13, .mov (.t 6), none⟩,
    ⟨some 4, .mov (.k (.emp 6)), none⟩,
    ⟨some 5, .mov (.t 13), none⟩]) (
  .ret)) (
  .skip)))) (
 .seq (
 .reg [
   ⟨some 14, .mov (.t 0), none⟩,
   ⟨some 15, .call 83 [.t 14], none⟩,
   ⟨some 7, .mov (.t 15), none⟩]) (
 .seq (
 .seq (
 .reg [
   ⟨some 16, .mov (.t 7), none⟩,
   ⟨some 17, .mov (.t 1), none⟩,
   ⟨some 18, .iaddr 6 (.t 16) (.t 17), none⟩,
   ⟨some 19, .faddr 5 (.t 18), none⟩,
   ⟨some 20, .load false 1 (.t 19), none⟩]) (
 .cond (.t 20) (
  .seq (
  .reg [
    ⟨some 21, .mov (.t 7), none⟩,
    ⟨some 4, .mov (.t 21), none⟩,
    ⟨some 5, .mov (.k (.val (.int .i64 15))), none⟩]) (
  .ret)) (
  .skip))) (
 .seq (
 .reg [
   ⟨some 22, .mov (.t 7), none⟩,
   ⟨some 23, .mov (.t 1), none⟩,
   ⟨some 24, .iaddr 6 (.t 22) (.t 23), none⟩,
   ⟨some 25, .faddr 5 (.t 24), none⟩,
   ⟨none, .store 1 (.t 25) (.k (.val (.bool true))), none⟩]) (
 .seq (
 .reg [
   ⟨some 26, .mov (.t 7), none⟩,
   ⟨some 4, .mov (.t 26), none⟩,
   ⟨some 5, .mov (.k (.val (.int .i64 0))), none⟩]) (
 .ret))))))
theorem ok32 : chkFn Tryz.prog 32 ir32 2 [.t 4, .t 5] = true := by kernel_rfl

/-- loop.example/g00779/spec.l07Wait -/
def ir120 : PC :=
 .seq (
 .reg [
   ⟨some 2, .mov (.k (.val (.int .i64 0))), none⟩]) (
 .seq (
 .reg [
   ⟨some 3, .mov (.k (.val (.int .i64 2))), none⟩]) (
 .seq (
 .seq (
 .reg [
   ⟨some 4, .mov (.k (.val (.int .i64 1))), none⟩]) (
 .block 0 (
  .loop (.ghost (
   .seq (
   .seq (
   .reg [
     ⟨some 5, .mov (.t 4), none⟩,
     ⟨some 6, .mov (.t 0), none⟩,
     ⟨some 7, .bin .lss (.t 5) (.t 6), none⟩,
     ⟨some 8, .mov (.t 7), none⟩,
     ⟨some 9, .mov (.t 3), some (8, true)⟩,
     ⟨some 10, .bin .lss (.t 9) (.k (.val (.int .i64 32))), some (8, true)⟩,
     ⟨some 11, .pick (.t 8) (.t 10) (.k (.val (.bool false))), none⟩]) (
   .cond (.t 11) (
    .skip) (
    .exit 0))) (
   .seq (
   .block 1 (
    .reg [
      ⟨some 14, .mov (.t 3), none⟩,
      ⟨some 15, .bin .mul (.t 14) (.k (.val (.int .i64 2))), none⟩,
      ⟨some 3, .mov (.t 15), none⟩])) (
   .reg [
     ⟨some 12, .mov (.t 4), none⟩,
     ⟨some 13, .bin .add (.t 12) (.k (.val (.int .i64 1))), none⟩,
     ⟨some 4, .mov (.t 13), none⟩]))))))) (
 .seq (
 .reg [
   ⟨some 16, .mov (.t 3), none⟩,
   ⟨some 17, .mn (.t 16) (.k (.val (.int .i64 32))), none⟩,
   ⟨some 2, .mov (.t 17), none⟩]) (
 .ret))))
theorem ok120 : chkFn Tryz.prog 120 ir120 1 [.t 2] = true := by kernel_rfl

/-- loop.example/g00779/spec.l07Fails -/
def ir87 : PC :=
 .seq (
 .reg [
   ⟨some 6, .mov (.k (.emp 6)), none⟩]) (
 .seq (
 .reg [
   ⟨some 8, .mov (.t 0), none⟩,
   ⟨some 9, .mov (.t 1), none⟩,
   ⟨some 10, .iaddr 6 (.t 8) (.t 9), none⟩,
   ⟨some 11, .load true 6 (.t 10), none⟩,
   ⟨some 7, .alloc [.val (.str ⟨#[]⟩), .val (.int .i64 0), .val (.int .i64 0), .val (.int .i64 0), .val (.int .i64 0), .val (.bool false)], none⟩,
   ⟨none, .store 6 (.t 7) (.t 11), none⟩]) (
 .seq (
 .reg [
   ⟨some 12, .faddr 3 (.t 7), none⟩,
   ⟨some 13, .load false 1 (.t 12), none⟩,
   ⟨some 14, .bin .add (.t 13) (.k (.val (.int .i64 1))), none⟩,
   ⟨some 15, .mn (.t 14) (.k (.val (.int .i64 1000000))), none⟩,
   ⟨some 16, .faddr 3 (.t 7), none⟩,
   ⟨none, .store 1 (.t 16) (.t 15), none⟩]) (
 .seq (
 .reg [
   ⟨some 17, .mov (.t 2), none⟩,
   ⟨some 18, .faddr 3 (.t 7), none⟩,
   ⟨some 19, .load false 1 (.t 18), none⟩,
   ⟨some 20, .call 120 [.t 19], none⟩,
   ⟨some 21, .bin .add (.t 17) (.t 20), none⟩,
   ⟨some 22, .faddr 4 (.t 7), none⟩,
   ⟨none, .store 1 (.t 22) (.t 21), none⟩]) (
 .seq (
 .reg [
   ⟨some 23, .mov (.t 0), none⟩,
   ⟨some 24, .mov (.t 1), none⟩,
   ⟨some 25, .load true 6 (.t 7), none⟩,
   ⟨some 26, .call 157 [.t 23, .t 24, .t 25], none⟩,
   ⟨some 6, .mov (.t 26), none⟩]) (
 .ret)))))
theorem ok87 : chkFn Tryz.prog 87 ir87 3 [.t 6] = true := by kernel_rfl

/-- loop.example/g00779/spec.PeerFails -/
def ir33 : PC :=
 .seq (
 .reg [
   ⟨some 6, .mov (.k (.emp 6)), none⟩,
   ⟨some 7, .mov (.k (.val (.int .i64 0))), none⟩]) (
 .seq (
 .seq (
 .reg [
   ⟨some 9, .mov (.t 0), none⟩,
   ⟨some 10, .len (.t 9), none⟩,
   ⟨some 11, .bin .gtr (.t 10) (.k (.val (.int .i64 4096))), none⟩]) (
 .cond (.t 11) (
  .seq (
  .reg [
    ⟨some 12, .lit 67 6 [], none⟩,
    ⟨some 6, .mov (.t 12), none⟩,
    ⟨some 7, .mov (.k (.val (.int .i64 2))), none⟩]) (
  .ret)) (
  .skip))) (
 .seq (
 .seq (
 .reg [
   ⟨some 13, .mov (.t 0), none⟩,
   ⟨some 14, .mov (.t 1), none⟩,
   ⟨some 15, .call 79 [.t 13, .t 14], none⟩,
   ⟨some 8, .mov (.t 15), none⟩]) (
 .seq (
 .reg [
   ⟨some 16, .mov (.t 8), none⟩,
   ⟨some 17, .bin .neq (.t 16) (.k (.val (.int .i64 0))), none⟩]) (
 .cond (.t 17) (
  .seq (
  .reg [
    ⟨some 18, .lit 67 6 [], none⟩,
    ⟨some 19, .mov (.t 8), none⟩,
    ⟨some 6, .mov (.t 18), none⟩,
    ⟨some 7, .mov (.t 19), none⟩]) (
  .ret)) (
  .skip)))) (
 .seq (
 .seq (
 .reg [
   ⟨some 20, .mov (.t 2), none⟩,
   ⟨some 21, .call 86 [.t 20, .k (.val (.int .i64 0)), .k (.val (.int .i64 1000000))], none⟩,
   ⟨some 22, .un .not (.t 21), none⟩]) (
 .cond (.t 22) (
  .seq (
  .reg [
    ⟨some 23, .lit 67 6 [], none⟩,
    ⟨some 6, .mov (.t 23), none⟩,
    ⟨some 7, .mov (.k (.val (.int .i64 4))), none⟩]) (
  .ret)) (
  .skip))) (
 .seq (
 .reg [
   ⟨some 24, .mov (.t 0), none⟩,
   ⟨some 25, .mov (.t 1), none⟩,
   ⟨some 26, .mov (.t 2), none⟩,
   ⟨some 27, .call 87 [.t 24, .t 25, .t 26], none⟩,
   ⟨some 6, .mov (.t 27), none⟩,
   ⟨some 7, .mov (.k (.val (.int .i64 0))), none⟩]) (
 .ret)))))
theorem ok33 : chkFn Tryz.prog 33 ir33 3 [.t 6, .t 7] = true := by kernel_rfl

/-- loop.example/g00779/impl.Wait -/
def ir59 : PC :=
 .seq (
 .reg [
   ⟨some 2, .mov (.k (.val (.int .i64 0))), none⟩]) (
 .seq (
 .seq (
 .reg [
   ⟨some 5, .mov (.t 0), none⟩,
   ⟨some 6, .bin .lss (.t 5) (.k (.val (.int .i64 1))), none⟩]) (
 .cond (.t 6) (
  .seq (
  .reg [
    ⟨some 2, .mov (.k (.val (.int .i64 0))), none⟩]) (
  .ret)) (
  .skip))) (
 .seq (
 .reg [
   ⟨some 3, .mov (.k (.val (.int .i64 2))), none⟩]) (
 .seq (
 .seq (
 .reg [
   ⟨some 4, .mov (.k (.val (.int .i64 1))), none⟩]) (
 .block 0 (
  .loop (.ghost (
   .seq (
   .seq (
   .reg [
     ⟨some 7, .mov (.t 4), none⟩,
     ⟨some 8, .mov (.t 0), none⟩,
     ⟨some 9, .bin .lss (.t 7) (.t 8), none⟩,
     ⟨some 10, .mov (.t 9), none⟩,
     ⟨some 11, .mov (.t 3), some (10, true)⟩,
     ⟨some 12, .bin .lss (.t 11) (.k (.val (.int .i64 32))), some (10, true)⟩,
     ⟨some 13, .pick (.t 10) (.t 12) (.k (.val (.bool false))), none⟩]) (
   .cond (.t 13) (
    .skip) (
    .exit 0))) (
   .seq (
   .block 1 (
    .reg [
      ⟨some 16, .mov (.t 3), none⟩,
      ⟨some 17, .bin .mul (.t 16) (.k (.val (.int .i64 2))), none⟩,
      ⟨some 3, .mov (.t 17), none⟩])) (
   .reg [
     ⟨some 14, .mov (.t 4), none⟩,
     ⟨some 15, .bin .add (.t 14) (.k (.val (.int .i64 1))), none⟩,
     ⟨some 4, .mov (.t 15), none⟩]))))))) (
 .seq (
 .reg [
   ⟨some 18, .mov (.t 3), none⟩,
   ⟨some 2, .mov (.t 18), none⟩]) (
 .ret)))))
theorem ok59 : chkFn Tryz.prog 59 ir59 1 [.t 2] = true := by kernel_rfl

/-- loop.example/g00779/impl.PeerFails -/
def ir34 : PC :=
 .seq (
 .reg [
   ⟨some 6, .mov (.k (.emp 6)), none⟩,
   ⟨some 7, .mov (.k (.val (.int .i64 0))), none⟩]) (
 .seq (
 .seq (
 .reg [
   ⟨some 10, .mov (.t 0), none⟩,
   ⟨some 11, .mov (.t 1), none⟩,
   ⟨some 12, .call 82 [.t 10, .t 11], none⟩,
   ⟨some 13, .mov (.t 2), none⟩,
   ⟨some 14, .call 90 [.t 13], none⟩,
   ⟨some 15, .call 89 [.t 14, .k (.val (.int .i64 4))], none⟩,
   ⟨some 16, .lit 3 1 [.t 12, .t 15], none⟩,
   ⟨some 17, .call 88 [.t 16], none⟩,
   ⟨some 8, .mov (.t 17), none⟩]) (
 .seq (
 .reg [
   ⟨some 18, .mov (.t 8), none⟩,
   ⟨some 19, .bin .neq (.t 18) (.k (.val (.int .i64 0))), none⟩]) (
 .cond (.t 19) (
  .seq (
  .reg [
    ⟨some 20, .mov (.t 8), none⟩,
    ⟨some 6, .mov (.k (.emp 6)), none⟩,
    ⟨some 7, .mov (.t 20), none⟩]) (
  .ret)) (
  .skip)))) (
 .seq (
 .reg [
   ⟨some 21, .mov (.t 0), none⟩,
   ⟨some 22, .call 83 [.t 21], none⟩,
   ⟨some 9, .mov (.t 22), none⟩]) (
 .seq (
 .reg [
   ⟨some 23, .mov (.t 9), none⟩,
   ⟨some 24, .mov (.t 1), none⟩,
   ⟨some 25, .mov (.t 9), none⟩,
   ⟨some 26, .mov (.t 1), none⟩,
   ⟨some 27, .iaddr 6 (.t 25) (.t 26), none⟩,
   ⟨some 28, .faddr 3 (.t 27), none⟩,
   ⟨some 29, .load false 1 (.t 28), none⟩,
   ⟨some 30, .bin .add (.t 29) (.k (.val (.int .i64 1))), none⟩,
   ⟨some 31, .mn (.t 30) (.k (.val (.int .i64 1000000))), none⟩,
   ⟨some 32, .iaddr 6 (.t 23) (.t 24), none⟩,
   ⟨some 33, .faddr 3 (.t 32), none⟩,
   ⟨none, .store 1 (.t 33) (.t 31), none⟩]) (
 .seq (
 .reg [
   ⟨some 34, .mov (.t 9), none⟩,
   ⟨some 35, .mov (.t 1), none⟩,
   ⟨some 36, .mov (.t 2), none⟩,
   ⟨some 37, .mov (.t 9), none⟩,
   ⟨some 38, .mov (.t 1), none⟩,
   ⟨some 39, .iaddr 6 (.t 37) (.t 38), none⟩,
   ⟨some 40, .faddr 3 (.t 39), none⟩,
   ⟨some 41, .load false 1 (.t 40), none⟩,
   ⟨some 42, .call 59 [.t 41], none⟩,
   ⟨some 43, .bin .add (.t 36) (.t 42), none⟩,
   ⟨some 44, .iaddr 6 (.t 34) (.t 35), none⟩,
   ⟨some 45, .faddr 4 (.t 44), none⟩,
   ⟨none, .store 1 (.t 45) (.t 43), none⟩]) (
 .seq (
 .reg [
   ⟨some 46, .mov (.t 9), none⟩,
   ⟨some 6, .mov (.t 46), none⟩,
   ⟨some 7, .mov (.k (.val (.int .i64 0))), none⟩]) (
 .ret))))))
theorem ok34 : chkFn Tryz.prog 34 ir34 3 [.t 6, .t 7] = true := by kernel_rfl

end Go.Proofs
end

/- What the spec's functions on a peer that is gone, or failed, come to. -/
section
set_option maxRecDepth 100000
set_option linter.unusedVariables false
set_option linter.unusedSectionVars false
set_option linter.unusedSimpArgs false
namespace Go.Proofs
open Go.PW Go.KP
attribute [local simp] RV.cells RV.one PV.cells PV.solid PV.one vals? allVal mkAgg setAt RV.ofCells elems PV.killL
variable [GF]

theorem lpeersOK_fails {l : List LPeer} (h : lpeersOK l = true) {i : Nat} (hi : i < l.length) : 0 ≤ l[i].fails ∧ l[i].fails ≤ 1000000 := by
  unfold lpeersOK at h
  simp only [Bool.and_eq_true, List.all_eq_true] at h
  have h1 := h.1.2 l[i] (List.getElem_mem hi)
  unfold lpeerOK at h1
  simp only [Bool.and_eq_true, decide_eq_true_eq] at h1
  exact h1.1.1.2

theorem c_l07Leave (l : List LPeer) (i : Nat) (hi : i < l.length) (hl : l.length ≤ 4096) : CallOK Tryz.prog 85 [.val (rvPeers l), .val (num i)] (.ret (.val (rvPeers (l.set i (pgone l[i])))) []) [] := by
  refine call_val mixed ok85 rfl (fun _ => rfl) ?_
  unfold ir85
  rw [evalC_intro]
  have e2 : l[i]? = some l[i] := List.getElem?_eq_getElem hi
  simp [initSt, avPVs, avPV, avBoxesL, avBoxes, rvPeers, num, rvPeer, tx, allVal, e2, hi]
  refine callS_val rfl rfl (.inl rfl) (c_l07Put l i (pgone l[i]) hi hl) ?_
  simp [rvPeers, num]

theorem c_specPG_err (l : List LPeer) (k c : Int) (hc : lask l k = c) (h0 : c ≠ 0) (hl : l.length < 1099511627776) (hs : ∀ p ∈ l, p.target.url.length < 1099511627776) : CallOK Tryz.prog 31 [.val (rvPeers l), .val (num k)] (.ret (.tup [.val (rvPeers []), .val (num c)]) []) [] := by
  refine call_val mixed ok31 rfl (fun _ => rfl) ?_
  unfold ir31
  rw [evalC_intro]
  by_cases h : 4096 < l.length
  · have h' : (4096 : Int) < l.length := by omega
    have : c = 2 := by rw [← hc]; unfold lask; rw [if_pos h]
    subst this
    simp [initSt, avPVs, avPV, avBoxesL, avBoxes, rvPeers, num, h', frzOf]
  · have h' : ¬ (4096 : Int) < l.length := by omega
    simp [initSt, avPVs, avPV, avBoxesL, avBoxes, rvPeers, num, h']
    have hA := c_l07Ask l k hl hs
    rw [hc] at hA
    refine callS_val rfl rfl (.inl rfl) hA ?_
    simp [rvPeers, num, h0, frzOf]

def goneRes (l : List LPeer) (i : Nat) (hi : i < l.length) : List LPeer × Int := if l[i].gone then (l, 15) else (l.set i (pgone l[i]), 0)
theorem c_specPG_ok (l : List LPeer) (i : Nat) (hi : i < l.length) (hc : lask l i = 0) (hl : l.length ≤ 4096) (hs : ∀ p ∈ l, p.target.url.length < 1099511627776) : CallOK Tryz.prog 31 [.val (rvPeers l), .val (num i)] (.ret (.tup [.val (rvPeers (goneRes l i hi).1), .val (num (goneRes l i hi).2)]) []) [] := by
  refine call_val mixed ok31 rfl (fun _ => rfl) ?_
  unfold ir31
  rw [evalC_intro]
  have h' : ¬ (4096 : Int) < l.length := by omega
  have e2 : l[i]? = some l[i] := List.getElem?_eq_getElem hi
  have h1 := one_rvPeers l
  simp [initSt, avPVs, avPV, avBoxesL, avBoxes, rvPeers, num, h']
  have hA := c_l07Ask l i (by omega) hs
  rw [hc] at hA
  refine callS_val rfl rfl (.inl rfl) hA ?_
  unfold goneRes
  simp [rvPeers, num, e2, hi, rvPeer]
  cases hg : l[i].gone with
  | true =>
    simp [rvPeers, num, frzOf, rvPeer, tx]
    omega
  | false =>
    simp [rvPeers, num]
    refine callS_val rfl rfl (.inl rfl) (c_l07Leave l i hi hl) ?_
    simp [rvPeers, num]

theorem c_l07Wait (f : Int) (h0 : -1 ≤ f) (h1 : f ≤ 1000001) : CallOK Tryz.prog 120 [.val (num f)] (.ret (.val (num (lwait f))) []) [] := by
  refine call_val mixed ok120 rfl (fun _ => rfl) ?_
  unfold ir120
  rw [evalC_intro]
  simp [initSt, avPVs, avPV, avBoxesL, avBoxes, num]
  refine loop_EC (X := Nat) (fun j => ⟨envOf [(0, .val (num f)), (3, .val (num (lwaitN j))), (4, .val (num ((j : Int) + 1)))], memOf []⟩) (fun j => j ≤ 4 ∧ ((j : Int) ≤ f - 1 ∨ j = 0)) (fun j => 4 - j) 0 (Le.mk _ _ ?_ ?_) ?_ ?_
  · simp [upd, num, lwaitN]
  · simp
  · simp
  · rintro j ⟨hj, hb⟩
    have hr := lwaitN_le hj
    by_cases hA : (j : Int) + 1 < f
    · by_cases hB : lwaitN j < 32
      · have h4 := (lwaitN_lt hj).1 hB
        have hs := lwaitN_succ j
        have w1 : IntKind.i64.wrap (lwaitN j * 2) = lwaitN j * 2 := wrap_i64 (by omega) (by omega)
        have w2 : IntKind.i64.wrap ((j : Int) + 1 + 1) = (j : Int) + 1 + 1 := wrap_i64 (by omega) (by omega)
        simp [num, hA, hB, w1, w2]
        refine LoopNext.mk (j + 1) ⟨by omega, .inl (by omega)⟩ (by omega) (Le.mk _ _ ?_ ?_)
        · simp [num, hs]
        · simp
      · have he := lwait_stop hj hb (fun h => hB h.2)
        have hm : ¬ (32 : Int) < lwaitN j := by omega
        simp [num, hA, hB, he, hm]
    · have he := lwait_stop hj hb (fun h => hA h.1)
      have hm : ¬ (32 : Int) < lwaitN j := by omega
      simp [num, hA, he, hm]

theorem c_l07Fails (l : List LPeer) (i : Nat) (now : Int) (hi : i < l.length) (hl : l.length ≤ 4096) (hn : 0 ≤ now ∧ now ≤ 1000000) (hf : 0 ≤ l[i].fails ∧ l[i].fails ≤ 1000000) : CallOK Tryz.prog 87 [.val (rvPeers l), .val (num i), .val (num now)] (.ret (.val (rvPeers (l.set i (pfails l[i] now)))) []) [] := by
  refine call_val mixed ok87 rfl (fun _ => rfl) ?_
  unfold ir87
  rw [evalC_intro]
  have e2 : l[i]? = some l[i] := List.getElem?_eq_getElem hi
  have w1 : IntKind.i64.wrap (l[i].fails + 1) = l[i].fails + 1 := wrap_i64 (by omega) (by omega)
  have hm : (if (1000000 : Int) < l[i].fails + 1 then (1000000 : Int) else l[i].fails + 1) = min (l[i].fails + 1) 1000000 := by split <;> omega
  have hput := c_l07Put l i (pfails l[i] now) hi hl
  have hwt := c_l07Wait (min (l[i].fails + 1) 1000000) (by omega) (by omega)
  have hr := lwait_range (min (l[i].fails + 1) 1000000)
  have hpf : pfails l[i] now = { l[i] with fails := min (l[i].fails + 1) 1000000, retry := now + lwait (min (l[i].fails + 1) 1000000) } := rfl
  rw [hpf] at hput
  generalize hF : min (l[i].fails + 1) 1000000 = F at *
  have w2 : IntKind.i64.wrap (now + lwait F) = now + lwait F := wrap_i64 (by omega) (by omega)
  simp [initSt, avPVs, avPV, avBoxesL, avBoxes, rvPeers, num, rvPeer, tx, allVal, e2, hi, w1, hm]
  refine callS_val rfl rfl (.inl rfl) hwt ?_
  simp [rvPeers, num, w2]
  refine callS_val rfl rfl (.inl rfl) hput ?_
  simp [rvPeers, num]
  rw [hpf]

def laskF (l : List LPeer) (k now : Int) : Int := if lask l k ≠ 0 then lask l k else if 0 ≤ now ∧ now ≤ 1000000 then 0 else 4
theorem c_specPF_err (l : List LPeer) (k now c : Int) (hc : laskF l k now = c) (h0 : c ≠ 0) (hl : l.length < 1099511627776) (hs : ∀ p ∈ l, p.target.url.length < 1099511627776) : CallOK Tryz.prog 33 [.val (rvPeers l), .val (num k), .val (num now)] (.ret (.tup [.val (rvPeers []), .val (num c)]) []) [] := by
  refine call_val mixed ok33 rfl (fun _ => rfl) ?_
  unfold ir33
  rw [evalC_intro]
  unfold laskF at hc
  by_cases h : 4096 < l.length
  · have h' : (4096 : Int) < l.length := by omega
    have hk : lask l k = 2 := by unfold lask; rw [if_pos h]
    rw [hk, if_pos (by decide)] at hc
    subst hc
    simp [initSt, avPVs, avPV, avBoxesL, avBoxes, rvPeers, num, h', frzOf]
  · have h' : ¬ (4096 : Int) < l.length := by omega
    simp [initSt, avPVs, avPV, avBoxesL, avBoxes, rvPeers, num, h']
    refine callS_val rfl rfl (.inl rfl) (c_l07Ask l k hl hs) ?_
    by_cases hk : lask l k = 0
    · rw [if_neg (fun h => h hk)] at hc
      have hn : ¬ (0 ≤ now ∧ now ≤ 1000000) := fun h => by rw [if_pos h] at hc; exact h0 hc.symm
      rw [if_neg hn] at hc
      subst hc
      rw [hk]
      simp [rvPeers, num]
      refine callS_val rfl rfl (.inl rfl) (c_l01In .i64 now 0 1000000) ?_
      rw [decide_eq_false hn]
      simp [rvPeers, num, frzOf]
    · rw [if_pos hk] at hc
      rw [hc]
      simp [rvPeers, num, h0, frzOf]

theorem c_specPF_ok (l : List LPeer) (i : Nat) (now : Int) (hi : i < l.length) (hc : laskF l i now = 0) (hl : l.length ≤ 4096) (hn : 0 ≤ now ∧ now ≤ 1000000) (hf : 0 ≤ l[i].fails ∧ l[i].fails ≤ 1000000) (hs : ∀ p ∈ l, p.target.url.length < 1099511627776) : CallOK Tryz.prog 33 [.val (rvPeers l), .val (num i), .val (num now)] (.ret (.tup [.val (rvPeers (l.set i (pfails l[i] now))), .val (num 0)]) []) [] := by
  refine call_val mixed ok33 rfl (fun _ => rfl) ?_
  unfold ir33
  rw [evalC_intro]
  have h' : ¬ (4096 : Int) < l.length := by omega
  have hk : lask l i = 0 := by
    unfold laskF at hc
    by_cases hk : lask l i = 0
    · exact hk
    · rw [if_pos hk] at hc; exact hc
  simp [initSt, avPVs, avPV, avBoxesL, avBoxes, rvPeers, num, h']
  have hA := c_l07Ask l i (by omega) hs
  rw [hk] at hA
  refine callS_val rfl rfl (.inl rfl) hA ?_
  simp [rvPeers, num]
  refine callS_val rfl rfl (.inl rfl) (c_l01In .i64 now 0 1000000) ?_
  rw [decide_eq_true hn]
  simp [rvPeers, num]
  refine callS_val rfl rfl (.inl rfl) (c_l07Fails l i now hi hl hn hf) ?_
  simp [rvPeers, num]
end Go.Proofs
end

/- What the program's functions on a peer that is gone, or failed, come to; the laws of PeerGone and PeerFails. -/
section
set_option maxRecDepth 100000
set_option linter.unusedVariables false
set_option linter.unusedSectionVars false
set_option linter.unusedSimpArgs false
namespace Go.Proofs
open Go.PW Go.KP
attribute [local simp] RV.cells RV.one PV.cells PV.solid PV.one vals? allVal mkAgg setAt RV.ofCells elems PV.killL
variable [GH]

theorem i_PG_err (l : List LPeer) (k c : Int) (hc : lask l k = c) (h0 : c ≠ 0) (hl : l.length < 1099511627776) (hs : ∀ p ∈ l, p.target.url.length < 1048577) : CallOK Tryz.prog 32 [.val (rvPeers l), .val (num k)] (.ret (.tup [.val (rvPeers []), .val (num c)]) []) [] := by
  refine call_val mixed ok32 rfl (fun _ => rfl) ?_
  unfold ir32
  rw [evalC_intro]
  have hA := i_peerCode l k hl hs
  rw [hc] at hA
  simp [initSt, avPVs, avPV, avBoxesL, avBoxes, rvPeers, num]
  refine callS_val rfl rfl (.inl rfl) hA ?_
  simp [rvPeers, num, h0]

theorem i_PG_ok (l : List LPeer) (i : Nat) (hi : i < l.length) (hc : lask l i = 0) (hl : l.length ≤ 4096) (hs : ∀ p ∈ l, p.target.url.length < 1048577) : CallOK Tryz.prog 32 [.val (rvPeers l), .val (num i)] (.ret (.tup [.own 0, .val (num (goneRes l i hi).2)]) [⟨67, 6, (goneRes l i hi).1.map rvPeer⟩]) [] := by
  refine call_mk (mk := fun i' => .tup [.own i', .val (num (goneRes l i hi).2)]) mixed ok32 rfl (fun _ => rfl) ?_
  unfold ir32
  rw [evalC_intro]
  have hA := i_peerCode l i (by omega) hs
  rw [hc] at hA
  have e2 : l[i]? = some l[i] := List.getElem?_eq_getElem hi
  have hne : l ≠ [] := fun e => by subst e; simp at hi
  unfold goneRes
  simp [initSt, avPVs, avPV, avBoxesL, avBoxes, rvPeers, num]
  refine callS_val rfl rfl (.inl rfl) hA ?_
  simp [rvPeers, num]
  refine callS_mk rfl rfl rfl (.inl rfl) (i_clone l hne hl) ?_
  cases hg : l[i].gone with
  | true =>
    simp [rvPeers, num, rowBase, PV.shift, PV.kill, MObj.kill, hi, e2, rvPeer, tx, hg]
  | false =>
    simp [rvPeers, num, rowBase, PV.shift, PV.kill, MObj.kill, hi, e2, rvPeer, tx, hg]
    rfl

theorem i_Wait (f : Int) (h0 : 1 ≤ f) (h1 : f ≤ 1000001) : CallOK Tryz.prog 59 [.val (num f)] (.ret (.val (num (lwait f))) []) [] := by
  refine call_val mixed ok59 rfl (fun _ => rfl) ?_
  unfold ir59
  rw [evalC_intro]
  have hn : ¬ f < 1 := by omega
  simp [initSt, avPVs, avPV, avBoxesL, avBoxes, num, hn]
  refine loop_EC (X := Nat) (fun j => ⟨envOf [(0, .val (num f)), (3, .val (num (lwaitN j))), (4, .val (num ((j : Int) + 1)))], memOf []⟩) (fun j => j ≤ 4 ∧ ((j : Int) ≤ f - 1 ∨ j = 0)) (fun j => 4 - j) 0 (Le.mk _ _ ?_ ?_) ?_ ?_
  · simp [upd, num, lwaitN]
  · simp
  · simp
  · rintro j ⟨hj, hb⟩
    have hr := lwaitN_le hj
    by_cases hA : (j : Int) + 1 < f
    · by_cases hB : lwaitN j < 32
      · have h4 := (lwaitN_lt hj).1 hB
        have hs := lwaitN_succ j
        have w1 : IntKind.i64.wrap (lwaitN j * 2) = lwaitN j * 2 := wrap_i64 (by omega) (by omega)
        have w2 : IntKind.i64.wrap ((j : Int) + 1 + 1) = (j : Int) + 1 + 1 := wrap_i64 (by omega) (by omega)
        simp [num, hA, hB, w1, w2]
        refine LoopNext.mk (j + 1) ⟨by omega, .inl (by omega)⟩ (by omega) (Le.mk _ _ ?_ ?_)
        · simp [num, hs]
        · simp
      · have he := lwait_stop hj hb (fun h => hB h.2)
        simp [num, hA, hB, he]
    · have he := lwait_stop hj hb (fun h => hA h.1)
      simp [num, hA, he]

theorem i_PF_code (l : List LPeer) (k now : Int) : lfirst [lask l k, if 0 ≤ now ∧ now ≤ 1000000 then 0 else 4] = laskF l k now := by
  unfold laskF
  by_cases hk : lask l k = 0
  · by_cases hn : 0 ≤ now ∧ now ≤ 1000000
    · rw [if_pos hn, hk]; rfl
    · rw [if_neg hn, hk]; rfl
  · rw [lfirst_ne hk, if_pos hk]

theorem i_PF_err (l : List LPeer) (k now c : Int) (hc : laskF l k now = c) (h0 : c ≠ 0) (hl : l.length < 1099511627776) (hs : ∀ p ∈ l, p.target.url.length < 1048577) : CallOK Tryz.prog 34 [.val (rvPeers l), .val (num k), .val (num now)] (.ret (.tup [.val (rvPeers []), .val (num c)]) []) [] := by
  refine call_val mixed ok34 rfl (fun _ => rfl) ?_
  unfold ir34
  rw [evalC_intro]
  have hA := i_peerCode l k hl hs
  simp [initSt, avPVs, avPV, avBoxesL, avBoxes, rvPeers, num]
  refine callS_val rfl rfl (.inl rfl) hA ?_
  simp [rvPeers, num]
  refine callS_val rfl rfl (.inl rfl) (i_isNow now) ?_
  simp [rvPeers, num]
  refine callS_val rfl rfl (.inl rfl) (i_unless _ 4) ?_
  simp [rvPeers, num, elems]
  have hF := i_first [lask l k, if 0 ≤ now ∧ now ≤ 1000000 then 0 else 4] (by simp)
  rw [i_PF_code, hc] at hF
  simp only [List.map, num] at hF
  refine callS_val rfl rfl (.inr rfl) hF ?_
  simp [rvPeers, num, h0]

theorem i_PF_ok (l : List LPeer) (i : Nat) (now : Int) (hi : i < l.length) (hc : laskF l i now = 0) (hl : l.length ≤ 4096) (hn : 0 ≤ now ∧ now ≤ 1000000) (hf : 0 ≤ l[i].fails ∧ l[i].fails ≤ 1000000) (hs : ∀ p ∈ l, p.target.url.length < 1048577) : CallOK Tryz.prog 34 [.val (rvPeers l), .val (num i), .val (num now)] (.ret (.tup [.own 0, .val (num 0)]) [⟨67, 6, (l.set i (pfails l[i] now)).map rvPeer⟩]) [] := by
  refine call_mk (mk := fun i => .tup [.own i, .val (num 0)]) mixed ok34 rfl (fun _ => rfl) ?_
  unfold ir34
  rw [evalC_intro]
  have hA := i_peerCode l i (by omega) hs
  have e2 : l[i]? = some l[i] := List.getElem?_eq_getElem hi
  have hne : l ≠ [] := fun e => by subst e; simp at hi
  simp [initSt, avPVs, avPV, avBoxesL, avBoxes, rvPeers, num]
  refine callS_val rfl rfl (.inl rfl) hA ?_
  simp [rvPeers, num]
  refine callS_val rfl rfl (.inl rfl) (i_isNow now) ?_
  simp [rvPeers, num]
  refine callS_val rfl rfl (.inl rfl) (i_unless _ 4) ?_
  simp [rvPeers, num, elems]
  have hF := i_first [lask l i, if 0 ≤ now ∧ now ≤ 1000000 then 0 else 4] (by simp)
  rw [i_PF_code, hc] at hF
  simp only [List.map, num] at hF
  refine callS_val rfl rfl (.inr rfl) hF ?_
  simp [rvPeers, num]
  refine callS_mk rfl rfl rfl (.inl rfl) (i_clone l hne hl) ?_
  have w1 : IntKind.i64.wrap (l[i].fails + 1) = l[i].fails + 1 := wrap_i64 (by omega) (by omega)
  have hm : (if (1000000 : Int) < l[i].fails + 1 then (1000000 : Int) else l[i].fails + 1) = min (l[i].fails + 1) 1000000 := by split <;> omega
  have hwt := i_Wait (min (l[i].fails + 1) 1000000) (by omega) (by omega)
  have hr := lwait_range (min (l[i].fails + 1) 1000000)
  simp only [pfails]
  generalize hFF : min (l[i].fails + 1) 1000000 = F at *
  have w2 : IntKind.i64.wrap (now + lwait F) = now + lwait F := wrap_i64 (by omega) (by omega)
  simp [rvPeers, num, rowBase, PV.shift, PV.kill, MObj.kill, hi, e2, rvPeer, tx, w1, hm]
  refine callS_val rfl rfl (.inl rfl) hwt ?_
  simp [rvPeers, num, rowBase, PV.shift, PV.kill, MObj.kill, hi, e2, rvPeer, tx, w2]
  unfold pfails
  simp only [hFF]

theorem law_PeerGone_err (l : List LPeer) (k : Int) (c : Int) (hl : l.length ≤ 9223372036854775807) (hx : ∀ p ∈ l, p.target.url.length ≤ 9223372036854775807)
    (hsp : ¬ lsz l 1048576 < 0 → CallOK Tryz.prog 31 [.val (rvPeers l), .val (num k)] (.ret (.tup [.val (rvPeers []), .val (num c)]) []) []) (hip : ¬ lsz l 1048576 < 0 → CallOK Tryz.prog 32 [.val (rvPeers l), .val (num k)] (.ret (.tup [.val (rvPeers []), .val (num c)]) []) []) :
    CallOK Tryz.prog 6 [.val (rvPeers l), .val (num k)] (.ret (.val (.bool true)) []) [] := by
  refine call_val mixed ok6 rfl (fun _ => rfl) ?_
  unfold ir6
  rw [evalC_intro]
  simp [initSt, avPVs, avPV, avBoxesL, avBoxes, rvPeers, num]
  refine callS_val rfl rfl (.inl rfl) (c_szPeerS l 1048576 (by omega) (by omega) hl hx) ?_
  simp [num]
  refine iteP_intro (fun h => ?_) (fun h => ?_)
  · simp
  · obtain ⟨hl2, hx2⟩ := lsz_small (by omega) (by omega) h
    have hl3 : l.length < 1099511627776 := by omega
    have hsp := hsp h
    have hip := hip h
    have hmk := c_markPeerS l 1 (by omega) (by omega)
    have hne1 : ¬ ((1 + 6 * l.length : Nat) : Int) < 0 := by omega
    generalize ((1 + 6 * l.length : Nat) : Int) = m1 at hmk hne1
    simp [num]
    refine callS_val rfl rfl (.inl rfl) (c_toPeerS l hl3) ?_
    simp [num, rvPeers]
    refine callS_two rfl rfl (.inl rfl) hsp ?_
    simp [num, rvPeers]
    refine callS_mk rfl rfl rfl (.inl rfl) (c_toPeerS_own l hl3) ?_
    simp [rvPeers, num, rowBase, PV.shift, PV.shiftL, PV.kill, MObj.kill]
    refine callS_two rfl rfl (.inr (by simp [PV.flat, PV.flat.go, RV.flat, rvPeers, num])) hip ?_
    simp [rvPeers, num, rowBase, PV.shift, PV.shiftL, PV.kill, MObj.kill]
    refine callS_val rfl rfl (.inl rfl) (c_eqPeerS [] (by simp)) ?_
    simp [rvPeers, num, rowBase, PV.shift, PV.shiftL, PV.kill, MObj.kill]
    refine callS_val rfl rfl (.inl rfl) (c_toPeerS l hl3) ?_
    simp [rvPeers, num, rowBase, PV.shift, PV.shiftL, PV.kill, MObj.kill]
    refine callS_val rfl rfl (.inr rfl) (c_eqPeerS l hl3) ?_
    simp [rvPeers, num, rowBase, PV.shift, PV.shiftL, PV.kill, MObj.kill]
    refine rowC rfl rfl rfl rfl hmk rfl ?_
    simp [rvPeers, num, rowBase, PV.shift, PV.shiftL, PV.kill, MObj.kill, hne1]
    refine callS_val rfl rfl (.inl rfl) (c_eqPeerS [] (by simp)) ?_
    simp [rvPeers, num, rowBase, PV.shift, PV.shiftL, PV.kill, MObj.kill, hne1]
    refine callS_val rfl rfl (.inl rfl) (c_markPeerS_nil 1) ?_
    simp [rvPeers, num, rowBase, PV.shift, PV.shiftL, PV.kill, MObj.kill, hne1]
    refine callS_val rfl rfl (.inl rfl) (c_heldPeerS 0 1 (by omega) (by omega)) ?_
    simp [rvPeers, num, rowBase, PV.shift, PV.shiftL, PV.kill, MObj.kill, hne1]
    refine callS_val rfl rfl (.inl rfl) (c_toPeerS l hl3) ?_
    simp [rvPeers, num, rowBase, PV.shift, PV.shiftL, PV.kill, MObj.kill]
    refine callS_two rfl rfl (.inl rfl) hip ?_
    simp [rvPeers, num, rowBase, PV.shift, PV.shiftL, PV.kill, MObj.kill]
    refine callS_val rfl rfl (.inl rfl) (c_eqPeerS [] (by simp)) ?_
    simp [rvPeers, num, rowBase, PV.shift, PV.shiftL, PV.kill, MObj.kill]
    refine callS_val rfl rfl (.inl rfl) (c_heldPeerS 0 1 (by omega) (by omega)) ?_
    simp [rvPeers, num, rowBase, PV.shift, PV.shiftL, PV.kill, MObj.kill]

theorem law_PeerGone_ok (l : List LPeer) (k : Int) (r : List LPeer) (c : Int) (hl : l.length ≤ 9223372036854775807) (hx : ∀ p ∈ l, p.target.url.length ≤ 9223372036854775807) (hrl : r.length = l.length)
    (hsp : ¬ lsz l 1048576 < 0 → CallOK Tryz.prog 31 [.val (rvPeers l), .val (num k)] (.ret (.tup [.val (rvPeers r), .val (num c)]) []) [])
    (hip : ¬ lsz l 1048576 < 0 → CallOK Tryz.prog 32 [.val (rvPeers l), .val (num k)] (.ret (.tup [.own 0, .val (num c)]) [⟨67, 6, r.map rvPeer⟩]) []) :
    CallOK Tryz.prog 6 [.val (rvPeers l), .val (num k)] (.ret (.val (.bool true)) []) [] := by
  refine call_val mixed ok6 rfl (fun _ => rfl) ?_
  unfold ir6
  rw [evalC_intro]
  simp [initSt, avPVs, avPV, avBoxesL, avBoxes, rvPeers, num]
  refine callS_val rfl rfl (.inl rfl) (c_szPeerS l 1048576 (by omega) (by omega) hl hx) ?_
  simp [num]
  refine iteP_intro (fun h => ?_) (fun h => ?_)
  · simp
  · obtain ⟨hl2, hx2⟩ := lsz_small (by omega) (by omega) h
    have hl3 : l.length < 1099511627776 := by omega
    have hsp := hsp h
    have hip := hip h
    have hmk := c_markPeerS l 1 (by omega) (by omega)
    have hmk2 := c_markPeerS r 1 (by omega) (by omega)
    have hhd := c_heldPeerS r.length 1 (by omega) (by omega)
    rw [hrl] at hmk2 hhd
    have hfl := flat_rvPeers r
    have hrl3 : r.length < 1099511627776 := by omega
    have hne1 : ¬ ((1 + 6 * l.length : Nat) : Int) < 0 := by omega
    generalize ((1 + 6 * l.length : Nat) : Int) = m1 at *
    simp [num]
    refine callS_val rfl rfl (.inl rfl) (c_toPeerS l hl3) ?_
    simp [num, rvPeers]
    refine callS_two rfl rfl (.inl rfl) hsp ?_
    simp [num, rvPeers]
    refine callS_mk rfl rfl rfl (.inl rfl) (c_toPeerS_own l hl3) ?_
    simp [rvPeers, num, rowBase, PV.shift, PV.shiftL, PV.kill, MObj.kill]
    refine callS_mk rfl rfl rfl (.inr ⟨by simp [PV.flat, PV.flat.go, RV.flat, num], hfl⟩) hip ?_
    simp [rvPeers, num, rowBase, PV.shift, PV.shiftL, PV.kill, MObj.kill]
    refine callS_val rfl rfl (.inr rfl) (c_eqPeerS r hrl3) ?_
    simp [rvPeers, num, rowBase, PV.shift, PV.shiftL, PV.kill, MObj.kill]
    refine callS_val rfl rfl (.inl rfl) (c_toPeerS l hl3) ?_
    simp [rvPeers, num, rowBase, PV.shift, PV.shiftL, PV.kill, MObj.kill]
    refine callS_val rfl rfl (.inr rfl) (c_eqPeerS l hl3) ?_
    simp [rvPeers, num, rowBase, PV.shift, PV.shiftL, PV.kill, MObj.kill]
    refine rowC rfl rfl rfl rfl hmk rfl ?_
    simp [rvPeers, num, rowBase, PV.shift, PV.shiftL, PV.kill, MObj.kill, hne1]
    refine callS_val rfl rfl (.inr rfl) (c_eqPeerS r hrl3) ?_
    simp [rvPeers, num, rowBase, PV.shift, PV.shiftL, PV.kill, MObj.kill, hne1]
    refine rowC rfl rfl rfl rfl hmk2 rfl ?_
    simp [rvPeers, num, rowBase, PV.shift, PV.shiftL, PV.kill, MObj.kill, hne1]
    refine callS_val rfl rfl (.inr rfl) hhd ?_
    simp [rvPeers, num, rowBase, PV.shift, PV.shiftL, PV.kill, MObj.kill, hne1]
    refine callS_val rfl rfl (.inl rfl) (c_toPeerS l hl3) ?_
    simp [rvPeers, num, rowBase, PV.shift, PV.shiftL, PV.kill, MObj.kill]
    refine callS_mk rfl rfl rfl (.inl rfl) hip ?_
    simp [rvPeers, num, rowBase, PV.shift, PV.shiftL, PV.kill, MObj.kill]
    refine callS_val rfl rfl (.inr rfl) (c_eqPeerS r hrl3) ?_
    simp [rvPeers, num, rowBase, PV.shift, PV.shiftL, PV.kill, MObj.kill]
    refine callS_val rfl rfl (.inr rfl) hhd ?_
    simp [rvPeers, num, rowBase, PV.shift, PV.shiftL, PV.kill, MObj.kill, hne1]

theorem law_PeerFails_err (l : List LPeer) (k : Int) (now : Int) (c : Int) (hl : l.length ≤ 9223372036854775807) (hx : ∀ p ∈ l, p.target.url.length ≤ 9223372036854775807)
    (hsp : ¬ lsz l 1048576 < 0 → CallOK Tryz.prog 33 [.val (rvPeers l), .val (num k), .val (num now)] (.ret (.tup [.val (rvPeers []), .val (num c)]) []) []) (hip : ¬ lsz l 1048576 < 0 → CallOK Tryz.prog 34 [.val (rvPeers l), .val (num k), .val (num now)] (.ret (.tup [.val (rvPeers []), .val (num c)]) []) []) :
    CallOK Tryz.prog 7 [.val (rvPeers l), .val (num k), .val (num now)] (.ret (.val (.bool true)) []) [] := by
  refine call_val mixed ok7 rfl (fun _ => rfl) ?_
  unfold ir7
  rw [evalC_intro]
  simp [initSt, avPVs, avPV, avBoxesL, avBoxes, rvPeers, num]
  refine callS_val rfl rfl (.inl rfl) (c_szPeerS l 1048576 (by omega) (by omega) hl hx) ?_
  simp [num]
  refine iteP_intro (fun h => ?_) (fun h => ?_)
  · simp
  · obtain ⟨hl2, hx2⟩ := lsz_small (by omega) (by omega) h
    have hl3 : l.length < 1099511627776 := by omega
    have hsp := hsp h
    have hip := hip h
    have hmk := c_markPeerS l 1 (by omega) (by omega)
    have hne1 : ¬ ((1 + 6 * l.length : Nat) : Int) < 0 := by omega
    generalize ((1 + 6 * l.length : Nat) : Int) = m1 at hmk hne1
    simp [num]
    refine callS_val rfl rfl (.inl rfl) (c_toPeerS l hl3) ?_
    simp [num, rvPeers]
    refine callS_two rfl rfl (.inl rfl) hsp ?_
    simp [num, rvPeers]
    refine callS_mk rfl rfl rfl (.inl rfl) (c_toPeerS_own l hl3) ?_
    simp [rvPeers, num, rowBase, PV.shift, PV.shiftL, PV.kill, MObj.kill]
    refine callS_two rfl rfl (.inr (by simp [PV.flat, PV.flat.go, RV.flat, rvPeers, num])) hip ?_
    simp [rvPeers, num, rowBase, PV.shift, PV.shiftL, PV.kill, MObj.kill]
    refine callS_val rfl rfl (.inl rfl) (c_eqPeerS [] (by simp)) ?_
    simp [rvPeers, num, rowBase, PV.shift, PV.shiftL, PV.kill, MObj.kill]
    refine callS_val rfl rfl (.inl rfl) (c_toPeerS l hl3) ?_
    simp [rvPeers, num, rowBase, PV.shift, PV.shiftL, PV.kill, MObj.kill]
    refine callS_val rfl rfl (.inr rfl) (c_eqPeerS l hl3) ?_
    simp [rvPeers, num, rowBase, PV.shift, PV.shiftL, PV.kill, MObj.kill]
    refine rowC rfl rfl rfl rfl hmk rfl ?_
    simp [rvPeers, num, rowBase, PV.shift, PV.shiftL, PV.kill, MObj.kill, hne1]
    refine callS_val rfl rfl (.inl rfl) (c_eqPeerS [] (by simp)) ?_
    simp [rvPeers, num, rowBase, PV.shift, PV.shiftL, PV.kill, MObj.kill, hne1]
    refine callS_val rfl rfl (.inl rfl) (c_markPeerS_nil 1) ?_
    simp [rvPeers, num, rowBase, PV.shift, PV.shiftL, PV.kill, MObj.kill, hne1]
    refine callS_val rfl rfl (.inl rfl) (c_heldPeerS 0 1 (by omega) (by omega)) ?_
    simp [rvPeers, num, rowBase, PV.shift, PV.shiftL, PV.kill, MObj.kill, hne1]
    refine callS_val rfl rfl (.inl rfl) (c_toPeerS l hl3) ?_
    simp [rvPeers, num, rowBase, PV.shift, PV.shiftL, PV.kill, MObj.kill]
    refine callS_two rfl rfl (.inl rfl) hip ?_
    simp [rvPeers, num, rowBase, PV.shift, PV.shiftL, PV.kill, MObj.kill]
    refine callS_val rfl rfl (.inl rfl) (c_eqPeerS [] (by simp)) ?_
    simp [rvPeers, num, rowBase, PV.shift, PV.shiftL, PV.kill, MObj.kill]
    refine callS_val rfl rfl (.inl rfl) (c_heldPeerS 0 1 (by omega) (by omega)) ?_
    simp [rvPeers, num, rowBase, PV.shift, PV.shiftL, PV.kill, MObj.kill]

theorem law_PeerFails_ok (l : List LPeer) (k : Int) (now : Int) (r : List LPeer) (c : Int) (hl : l.length ≤ 9223372036854775807) (hx : ∀ p ∈ l, p.target.url.length ≤ 9223372036854775807) (hrl : r.length = l.length)
    (hsp : ¬ lsz l 1048576 < 0 → CallOK Tryz.prog 33 [.val (rvPeers l), .val (num k), .val (num now)] (.ret (.tup [.val (rvPeers r), .val (num c)]) []) [])
    (hip : ¬ lsz l 1048576 < 0 → CallOK Tryz.prog 34 [.val (rvPeers l), .val (num k), .val (num now)] (.ret (.tup [.own 0, .val (num c)]) [⟨67, 6, r.map rvPeer⟩]) []) :
    CallOK Tryz.prog 7 [.val (rvPeers l), .val (num k), .val (num now)] (.ret (.val (.bool true)) []) [] := by
  refine call_val mixed ok7 rfl (fun _ => rfl) ?_
  unfold ir7
  rw [evalC_intro]
  simp [initSt, avPVs, avPV, avBoxesL, avBoxes, rvPeers, num]
  refine callS_val rfl rfl (.inl rfl) (c_szPeerS l 1048576 (by omega) (by omega) hl hx) ?_
  simp [num]
  refine iteP_intro (fun h => ?_) (fun h => ?_)
  · simp
  · obtain ⟨hl2, hx2⟩ := lsz_small (by omega) (by omega) h
    have hl3 : l.length < 1099511627776 := by omega
    have hsp := hsp h
    have hip := hip h
    have hmk := c_markPeerS l 1 (by omega) (by omega)
    have hmk2 := c_markPeerS r 1 (by omega) (by omega)
    have hhd := c_heldPeerS r.length 1 (by omega) (by omega)
    rw [hrl] at hmk2 hhd
    have hfl := flat_rvPeers r
    have hrl3 : r.length < 1099511627776 := by omega
    have hne1 : ¬ ((1 + 6 * l.length : Nat) : Int) < 0 := by omega
    generalize ((1 + 6 * l.length : Nat) : Int) = m1 at *
    simp [num]
    refine callS_val rfl rfl (.inl rfl) (c_toPeerS l hl3) ?_
    simp [num, rvPeers]
    refine callS_two rfl rfl (.inl rfl) hsp ?_
    simp [num, rvPeers]
    refine callS_mk rfl rfl rfl (.inl rfl) (c_toPeerS_own l hl3) ?_
    simp [rvPeers, num, rowBase, PV.shift, PV.shiftL, PV.kill, MObj.kill]
    refine callS_mk rfl rfl rfl (.inr ⟨by simp [PV.flat, PV.flat.go, RV.flat, num], hfl⟩) hip ?_
    simp [rvPeers, num, rowBase, PV.shift, PV.shiftL, PV.kill, MObj.kill]
    refine callS_val rfl rfl (.inr rfl) (c_eqPeerS r hrl3) ?_
    simp [rvPeers, num, rowBase, PV.shift, PV.shiftL, PV.kill, MObj.kill]
    refine callS_val rfl rfl (.inl rfl) (c_toPeerS l hl3) ?_
    simp [rvPeers, num, rowBase, PV.shift, PV.shiftL, PV.kill, MObj.kill]
    refine callS_val rfl rfl (.inr rfl) (c_eqPeerS l hl3) ?_
    simp [rvPeers, num, rowBase, PV.shift, PV.shiftL, PV.kill, MObj.kill]
    refine rowC rfl rfl rfl rfl hmk rfl ?_
    simp [rvPeers, num, rowBase, PV.shift, PV.shiftL, PV.kill, MObj.kill, hne1]
    refine callS_val rfl rfl (.inr rfl) (c_eqPeerS r hrl3) ?_
    simp [rvPeers, num, rowBase, PV.shift, PV.shiftL, PV.kill, MObj.kill, hne1]
    refine rowC rfl rfl rfl rfl hmk2 rfl ?_
    simp [rvPeers, num, rowBase, PV.shift, PV.shiftL, PV.kill, MObj.kill, hne1]
    refine callS_val rfl rfl (.inr rfl) hhd ?_
    simp [rvPeers, num, rowBase, PV.shift, PV.shiftL, PV.kill, MObj.kill, hne1]
    refine callS_val rfl rfl (.inl rfl) (c_toPeerS l hl3) ?_
    simp [rvPeers, num, rowBase, PV.shift, PV.shiftL, PV.kill, MObj.kill]
    refine callS_mk rfl rfl rfl (.inl rfl) hip ?_
    simp [rvPeers, num, rowBase, PV.shift, PV.shiftL, PV.kill, MObj.kill]
    refine callS_val rfl rfl (.inr rfl) (c_eqPeerS r hrl3) ?_
    simp [rvPeers, num, rowBase, PV.shift, PV.shiftL, PV.kill, MObj.kill]
    refine callS_val rfl rfl (.inr rfl) hhd ?_
    simp [rvPeers, num, rowBase, PV.shift, PV.shiftL, PV.kill, MObj.kill, hne1]

theorem law_PeerGone (l : List LPeer) (k : Int) (hl : l.length ≤ 9223372036854775807) (hx : ∀ p ∈ l, p.target.url.length ≤ 9223372036854775807) : CallOK Tryz.prog 6 [.val (rvPeers l), .val (num k)] (.ret (.val (.bool true)) []) [] := by
  by_cases hc : lask l k = 0
  · obtain ⟨g1, g2, g3, g4⟩ := lask_zero hc
    obtain ⟨i, rfl⟩ : ∃ i : Nat, k = i := ⟨k.toNat, by omega⟩
    have hi : i < l.length := by simpa using g4
    refine law_PeerGone_ok l i (goneRes l i hi).1 (goneRes l i hi).2 hl hx ?_ (fun h => ?_) (fun h => ?_)
    · unfold goneRes; split <;> simp
    · obtain ⟨hl2, hx2⟩ := lsz_small (by omega) (by omega) h
      exact c_specPG_ok l i hi hc g1 (fun p hp => by have := hx2 p hp; omega)
    · obtain ⟨hl2, hx2⟩ := lsz_small (by omega) (by omega) h
      exact i_PG_ok l i hi hc g1 (fun p hp => by have := hx2 p hp; omega)
  · refine law_PeerGone_err l k (lask l k) hl hx (fun h => ?_) (fun h => ?_)
    · obtain ⟨hl2, hx2⟩ := lsz_small (by omega) (by omega) h
      exact c_specPG_err l k _ rfl hc (by omega) (fun p hp => by have := hx2 p hp; omega)
    · obtain ⟨hl2, hx2⟩ := lsz_small (by omega) (by omega) h
      exact i_PG_err l k _ rfl hc (by omega) (fun p hp => by have := hx2 p hp; omega)
theorem law_PeerFails (l : List LPeer) (k now : Int) (hl : l.length ≤ 9223372036854775807) (hx : ∀ p ∈ l, p.target.url.length ≤ 9223372036854775807) : CallOK Tryz.prog 7 [.val (rvPeers l), .val (num k), .val (num now)] (.ret (.val (.bool true)) []) [] := by
  by_cases hc : laskF l k now = 0
  · have hk : lask l k = 0 := by
      unfold laskF at hc
      by_cases hk : lask l k = 0
      · exact hk
      · rw [if_pos hk] at hc; exact hc
    have hn : 0 ≤ now ∧ now ≤ 1000000 := by
      unfold laskF at hc
      rw [if_neg (fun h => h hk)] at hc
      by_cases hn : 0 ≤ now ∧ now ≤ 1000000
      · exact hn
      · rw [if_neg hn] at hc; cases hc
    obtain ⟨g1, g2, g3, g4⟩ := lask_zero hk
    obtain ⟨i, rfl⟩ : ∃ i : Nat, k = i := ⟨k.toNat, by omega⟩
    have hi : i < l.length := by simpa using g4
    have hf := lpeersOK_fails g2 hi
    refine law_PeerFails_ok l i now (l.set i (pfails l[i] now)) 0 hl hx (by simp) (fun h => ?_) (fun h => ?_)
    · obtain ⟨hl2, hx2⟩ := lsz_small (by omega) (by omega) h
      exact c_specPF_ok l i now hi hc g1 hn hf (fun p hp => by have := hx2 p hp; omega)
    · obtain ⟨hl2, hx2⟩ := lsz_small (by omega) (by omega) h
      exact i_PF_ok l i now hi hc g1 hn hf (fun p hp => by have := hx2 p hp; omega)
  · refine law_PeerFails_err l k now (laskF l k now) hl hx (fun h => ?_) (fun h => ?_)
    · obtain ⟨hl2, hx2⟩ := lsz_small (by omega) (by omega) h
      exact c_specPF_err l k now _ rfl hc (by omega) (fun p hp => by have := hx2 p hp; omega)
    · obtain ⟨hl2, hx2⟩ := lsz_small (by omega) (by omega) h
      exact i_PF_err l k now _ rfl hc (by omega) (fun p hp => by have := hx2 p hp; omega)
end Go.Proofs
end

/- THE CARD OF 'laws.FnExactPeerFails': for every input the call returns true, and each argument reads as it did; the listed variables of the library are tied to the program's text. MADE BY PROGRAM (gen_row.py). -/
section
set_option maxRecDepth 100000
set_option linter.unusedVariables false
namespace Go.Proofs.YtmilnihobbgopaaGreatDoor
open Go Go.ChangeShapes Go.WideShapes Go.ChangeAt Go.RowKit Go.PW Go.KP

theorem paramsPeerFails : Tryz.f7.params = #[35, 3, 3] := rfl

theorem liftedPeerFails (os : Os) (started : os.Started) (H : Type) (enc : TypeId × Value → H) :
    ReturnsInHanded {} Tryz.checked os 7 .any (fun w args => (Rows.fnExactPeerFailsSpec.pre enc Tryz.prog Tryz.f7 [] false w args ∧ laidMetH Tryz.prog lay5 w) ∧ sizedMet enc Tryz.prog Tryz.f7 (OpenSpec.ofChange Rows.fnExactPeerFailsSpec) false w args)
      (Rows.fnExactPeerFailsSpec.post enc Tryz.prog Tryz.f7 false true false false) := by
  refine lifted_shaped (C := Tryz.checked) (X := fun w _ => laidMetH Tryz.prog lay5 w) (fun _ _ _ hh h => h.of_heap hh) own started (by kernel_rfl) Tryz.func7
    (ChangeSpec.witness_shaped (enc := enc) (C := Tryz.checked) (os := os) (X := fun w _ => laidMetH Tryz.prog lay5 w) false (World.doorLaid Tryz.prog 4000 os) #[.slice none 0 0, .int .i64 0, .int .i64 0] 12 rfl (World.shaped_of_RefB (by kernel_rfl) (by kernel_rfl)) (by kernel_rfl) (by kernel_rfl) (by kernel_rfl) (door_met os _)) ?_
  intro W base args ds gs before hval0 hW hL hsh
  have hval : ∀ (j : Nat) t v, Tryz.f7.params[j]? = some t → args[j]? = some v → Value.okWide Tryz.prog W .any base t v := hval0
  have hW' := hW
  obtain ⟨p, q, hA0, hV, rfl, _, _⟩ := hW
  have hA : DataW.TrodAll enc Tryz.prog W 0 (fun _ => true) true Tryz.f7.params.toList args.toList ds p := hA0
  rw [paramsPeerFails] at hA hval
  obtain ⟨v0, v1, v2, d0, d1, d2, p0, p1, p2, rfl, rfl, rfl, h0, h1, h2⟩ := trodAll_three hA
  obtain ⟨rfl, rfl⟩ := trodVars_none hV
  obtain ⟨a0, len0, cap0, rfl⟩ := okWide_slice Tryz.underlying35 (hval 0 35 v0 rfl rfl)
  obtain ⟨r0, hr0, hq0⟩ := arg_cell (n := 4) (by kernel_rfl) (by kernel_rfl) rfl h0
  obtain ⟨x0, e0, b0⟩ := peers_ofrv (n := 0) hr0
  obtain rfl := (List.cons.inj e0).1
  obtain ⟨x1, rfl, rfl, rfl, _⟩ := open_int Tryz.underlying3 (hval 1 3 v1 rfl rfl) h1
  obtain ⟨x2, rfl, rfl, rfl, _⟩ := open_int Tryz.underlying3 (hval 2 3 v2 rfl rfl) h2
  obtain ⟨I, hg, hb⟩ := gh_of hL hsh
  have hlaw := @law_PeerFails I x0 x1 x2 b0.1 b0.2
  refine (calls_of (v := .bool true) hlaw (fun g hgg => ⟨fun h => h, hg g hgg⟩) (fun g hgg => ⟨fun h => h, hb g hgg⟩) (.cons _ _ _ _ [] [] (.val _ _ hq0) (.cons _ _ _ _ [] [] (.val _ _ (.int _ _)) (.cons _ _ _ _ [] [] (.val _ _ (.int _ _)) .nil))) (fun L w u hu => by cases hu; rfl)).mono fun e W' ⟨he, hbl⟩ => ?_
  exact ⟨_, he, post_true laidOut rfl Tryz.underlying4 rfl (by kernel_rfl) rfl hW' hbl⟩

theorem z1PeerFails : (Rows.fnExactPeerFailsRow.inPlace == Tryz.prog.inPlace 7) = true := by kernel_rfl
theorem z2PeerFails : (Rows.fnExactPeerFailsRow.unfollowed == Tryz.prog.unfollowed 7) = true := by kernel_rfl
theorem z3PeerFails : (Rows.fnExactPeerFailsRow.recurses == Tryz.prog.recurses 7) = true := by kernel_rfl
theorem z4PeerFails : (Rows.fnExactPeerFailsRow.named == Tryz.prog.varsNamed 7) = true := by kernel_rfl
theorem z8PeerFails : (Rows.fnExactPeerFailsRow.plainKeys == Tryz.prog.plainKeys) = true := by rw [z8All]; rfl
theorem z11PeerFails : (Rows.fnExactPeerFailsRow.lifted == Tryz.prog.liftsFinal) = true := by rw [z11All]; rfl
theorem z12PeerFails : Tryz.prog.funcNamed "loop.example/g00779/laws.FnExactPeerFails" = some 7 := by kernel_rfl
theorem closedPeerFails : joinedFacts Tryz.prog 7 Tryz.f7 Rows.fnExactPeerFailsSpec Rows.fnExactPeerFailsRow = true := by
  unfold joinedFacts
  simp only [Bool.and_eq_true]
  repeat' (apply And.intro)
  all_goals first
    | with_reducible exact laidOut
    | with_reducible exact z1PeerFails
    | with_reducible exact z2PeerFails
    | with_reducible exact z3PeerFails
    | with_reducible exact z4PeerFails
    | with_reducible exact z5All
    | with_reducible exact z6All
    | with_reducible exact z7All
    | with_reducible exact z8PeerFails
    | with_reducible exact z9All
    | with_reducible exact z10All
    | with_reducible exact z11PeerFails
    | kernel_rfl

theorem instPeerFails : Tryz.f7.isInstance Tryz.prog Rows.fnExactPeerFailsRow.origin Rows.fnExactPeerFailsRow.targs := of_decide_eq_true (by kernel_rfl)
theorem wrapPeerFails : Tryz.f7.isWrapper Tryz.prog Rows.fnExactPeerFailsRow.wrapper Rows.fnExactPeerFailsRow.mainSum := by
  unfold Func.isWrapper; first | (rw [if_pos (by decide +kernel)]; kernel_rfl) | (rw [if_neg (by decide +kernel)]; exact ⟨rfl, rfl⟩)
theorem rowPeerFails : Rows.FnExactPeerFailsSaid :=
  OpenClaim.holds_of_wide 7 Tryz.f7 rfl rfl rfl rfl rfl rfl rfl ⟨rfl, rfl, rfl, rfl, rfl⟩ rfl rfl rfl rfl rfl z12PeerFails Tryz.func7 closedPeerFails instPeerFails wrapPeerFails
    (fun os started H enc _ => liftedPeerFails os started H enc)

theorem y1PeerFails : Rows.fnExactPeerFailsRow.wfByText (OpenSpec.ofChange Rows.fnExactPeerFailsSpec) = true := by kernel_rfl
theorem y4PeerFails : false = Rows.fnExactPeerFailsRow.goesBy Tryz.prog := by kernel_rfl
theorem peerFails_card : Rows.FnExactPeerFailsCardSaid :=
  Claim7.holds_tied_plain_at .later [] [.data, .data, .data, .sentinel, .sentinel] true (true, "9e1acf34d2e11551000dc3c64ac39e34b40ed56a9b6c26527531e028de39efab") true
    rowPeerFails (fun _ h => by cases h) y1PeerFails (fun _ h => by cases h) fnExactPeerFails_row_tie rfl ⟨rfl, rfl⟩ y2All rfl
    (fun f fn hf hfn => by
      obtain rfl : f = 7 := Option.some.inj (z12PeerFails.symm.trans hf) |>.symm
      obtain rfl : fn = Tryz.f7 := (Option.some.inj (Tryz.func7.symm.trans hfn)).symm
      exact ⟨y3All, fun j t ht => by
        rw [paramsPeerFails] at ht
        match j, ht with
        | 0, ht =>
          obtain rfl : 35 = t := by simpa using ht
          exact (show Tryz.prog.wantsStandIn 35 = false by kernel_rfl)
        | 1, ht =>
          obtain rfl : 3 = t := by simpa using ht
          exact (show Tryz.prog.wantsStandIn 3 = false by kernel_rfl)
        | 2, ht =>
          obtain rfl : 3 = t := by simpa using ht
          exact (show Tryz.prog.wantsStandIn 3 = false by kernel_rfl)
        | j + 3, ht => simp at ht⟩)
    y4PeerFails
end Go.Proofs.YtmilnihobbgopaaGreatDoor
end
