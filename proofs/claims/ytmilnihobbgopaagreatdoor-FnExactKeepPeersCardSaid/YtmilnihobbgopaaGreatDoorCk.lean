/- Ck: merged out of IRj, IRk, KPm, KSp, KSq, KSo, KIq, KIr, IRl, KIs. -/
import Derived.Test.YtmilnihobbgopaaGreatDoorPWv
import Derived.Test.YtmilnihobbgopaaGreatDoorChecked
import Derived.KernelRfl
import Derived.Test.YtmilnihobbgopaaGreatDoorAc
import Derived.Test.YtmilnihobbgopaaGreatDoorCd
import Derived.Test.YtmilnihobbgopaaGreatDoorCa
import Derived.Test.YtmilnihobbgopaaGreatDoorBa
import Derived.Test.YtmilnihobbgopaaGreatDoorEe
import Derived.Test.YtmilnihobbgopaaGreatDoorEa
import Derived.Test.YtmilnihobbgopaaGreatDoorEd

/- Functions of the seat as data. MADE BY PROGRAM (print_ir.py). -/
section
set_option maxRecDepth 100000
namespace Go.Proofs
open Go.PW

/-- loop.example/g00779/laws.szTargetS -/
def ir113 : PC :=
 .seq (
 .reg [
   ⟨some 4, .mov (.k (.val (.int .i64 0))), none⟩]) (
 .seq (
 .reg [
   ⟨some 6, .mov (.t 1), none⟩,
   ⟨some 7, .mov (.t 0), none⟩,
   ⟨some 8, .len (.t 7), none⟩,
   ⟨some 9, .bin .sub (.t 6) (.t 8), none⟩,
   ⟨some 1, .mov (.t 9), none⟩]) (
 .seq (
 .seq (
 .reg [
   ⟨some 10, .mov (.t 1), none⟩,
   ⟨some 11, .bin .lss (.t 10) (.k (.val (.int .i64 0))), none⟩]) (
 .cond (.t 11) (
  .seq (
  .reg [
    ⟨some 4, .mov (.k (.val (.int .i64 (-1)))), none⟩]) (
  .ret)) (
  .skip))) (
 .seq (
 .seq (
 .reg [
   ⟨some 5, .mov (.k (.val (.int .i64 0))), none⟩]) (
 .block 0 (
  .loop (.ghost (
   .seq (
   .seq (
   .reg [
     ⟨some 12, .mov (.t 5), none⟩,
     ⟨some 13, .mov (.t 0), none⟩,
     ⟨some 14, .len (.t 13), none⟩,
     ⟨some 15, .bin .lss (.t 12) (.t 14), none⟩]) (
   .cond (.t 15) (
    .skip) (
    .exit 0))) (
   .seq (
   .block 1 (
    .seq (
    .reg [
      ⟨some 18, .mov (.t 0), none⟩,
      ⟨some 19, .mov (.t 5), none⟩,
      ⟨some 20, .iaddr 3 (.t 18) (.t 19), none⟩,
      ⟨some 21, .load true 3 (.t 20), none⟩,
      ⟨some 22, .mov (.t 1), none⟩,
      ⟨some 23, .call 156 [.t 21, .t 22], none⟩,
      ⟨some 1, .mov (.t 23), none⟩]) (
    .seq (
    .reg [
      ⟨some 24, .mov (.t 1), none⟩,
      ⟨some 25, .bin .lss (.t 24) (.k (.val (.int .i64 0))), none⟩]) (
    .cond (.t 25) (
     .seq (
     .reg [
       ⟨some 4, .mov (.k (.val (.int .i64 (-1)))), none⟩]) (
     .ret)) (
     .skip))))) (
   .reg [
     ⟨some 16, .mov (.t 5), none⟩,
     ⟨some 17, .bin .add (.t 16) (.k (.val (.int .i64 1))), none⟩,
     ⟨some 5, .mov (.t 17), none⟩]))))))) (
 .seq (
 .reg [
   ⟨some 26, .mov (.t 1), none⟩,
   ⟨some 4, .mov (.t 26), none⟩]) (
 .ret)))))
theorem ok113 : chkFn Tryz.prog 113 ir113 2 [.t 4] = true := by kernel_rfl

/-- loop.example/g00779/laws.toTargetS -/
def ir114 : PC :=
 .seq (
 .reg [
   ⟨some 2, .mov (.k (.emp 3)), none⟩]) (
 .seq (
 .reg [
   ⟨some 5, .mov (.t 0), none⟩,
   ⟨some 6, .len (.t 5), none⟩,
   ⟨some 7, .mks 65 3 32 true [.val (.str ⟨#[]⟩), .val (.int .i64 0), .val (.int .i64 0)] (.t 6), none⟩,
   ⟨some 3, .mov (.t 7), none⟩]) (
 .seq (
 .seq (
 .reg [
   ⟨some 4, .mov (.k (.val (.int .i64 0))), none⟩]) (
 .block 0 (
  .loop (.ghost (
   .seq (
   .seq (
   .reg [
     ⟨some 8, .mov (.t 4), none⟩,
     ⟨some 9, .mov (.t 0), none⟩,
     ⟨some 10, .len (.t 9), none⟩,
     ⟨some 11, .bin .lss (.t 8) (.t 10), none⟩]) (
   .cond (.t 11) (
    .skip) (
    .exit 0))) (
   .seq (
   .block 1 (
    .reg [
      ⟨some 14, .mov (.t 3), none⟩,
      ⟨some 15, .mov (.t 4), none⟩,
      ⟨some 16, .mov (.t 0), none⟩,
      ⟨some 17, .mov (.t 4), none⟩,
      ⟨some 18, .iaddr 3 (.t 16) (.t 17), none⟩,
      ⟨some 19, .load true 3 (.t 18), none⟩,
      ⟨some 20, .call 158 [.t 19], none⟩,
      ⟨some 21, .iaddr 3 (.t 14) (.t 15), none⟩,
      ⟨none, .store 3 (.t 21) (.t 20), none⟩])) (
   .reg [
     ⟨some 12, .mov (.t 4), none⟩,
     ⟨some 13, .bin .add (.t 12) (.k (.val (.int .i64 1))), none⟩,
     ⟨some 4, .mov (.t 13), none⟩]))))))) (
 .seq (
 .reg [
   ⟨some 22, .mov (.t 3), none⟩,
   ⟨some 2, .mov (.t 22), none⟩]) (
 .ret))))
theorem ok114 : chkFn Tryz.prog 114 ir114 1 [.t 2] = true := by kernel_rfl

/-- loop.example/g00779/laws.eqTargetS -/
def ir115 : PC :=
 .seq (
 .reg [
   ⟨some 4, .mov (.k (.val (.bool false))), none⟩]) (
 .seq (
 .seq (
 .reg [
   ⟨some 6, .mov (.t 0), none⟩,
   ⟨some 7, .len (.t 6), none⟩,
   ⟨some 8, .mov (.t 1), none⟩,
   ⟨some 9, .len (.t 8), none⟩,
   ⟨some 10, .bin .neq (.t 7) (.t 9), none⟩]) (
 .cond (.t 10) (
  .seq (
  .reg [
    ⟨some 4, .mov (.k (.val (.bool false))), none⟩]) (
  .ret)) (
  .skip))) (
 .seq (
 .seq (
 .reg [
   ⟨some 5, .mov (.k (.val (.int .i64 0))), none⟩]) (
 .block 0 (
  .loop (.ghost (
   .seq (
   .seq (
   .reg [
     ⟨some 11, .mov (.t 5), none⟩,
     ⟨some 12, .mov (.t 0), none⟩,
     ⟨some 13, .len (.t 12), none⟩,
     ⟨some 14, .bin .lss (.t 11) (.t 13), none⟩]) (
   .cond (.t 14) (
    .skip) (
    .exit 0))) (
   .seq (
   .block 1 (
    .seq (
    .draw [
      ⟨some 17, .mov (.t 0), none⟩,
      ⟨some 18, .mov (.t 5), none⟩,
      ⟨some 19, .iaddr 3 (.t 17) (.t 18), none⟩,
      ⟨some 20, .load true 3 (.t 19), none⟩,
      ⟨some 21, .mov (.t 1), none⟩,
      ⟨some 22, .mov (.t 5), none⟩,
      ⟨some 23, .iaddr 3 (.t 21) (.t 22), none⟩,
      ⟨some 24, .load true 3 (.t 23), none⟩] [
      ⟨some 25, .call 159 [.t 20, .t 24], none⟩,
      ⟨some 26, .un .not (.t 25), none⟩]) (
    .cond (.t 26) (
     .seq (
     .reg [
       ⟨some 4, .mov (.k (.val (.bool false))), none⟩]) (
     .ret)) (
     .skip)))) (
   .reg [
     ⟨some 15, .mov (.t 5), none⟩,
     ⟨some 16, .bin .add (.t 15) (.k (.val (.int .i64 1))), none⟩,
     ⟨some 5, .mov (.t 16), none⟩]))))))) (
 .seq (
 .reg [
   ⟨some 4, .mov (.k (.val (.bool true))), none⟩]) (
 .ret))))
theorem ok115 : chkFn Tryz.prog 115 ir115 2 [.t 4] = true := by kernel_rfl

/-- loop.example/g00779/laws.szGroup -/
def ir48 : PC :=
 .seq (
 .reg [
   ⟨some 2, .box (.t 0), none⟩,
   ⟨some 4, .mov (.k (.val (.int .i64 0))), none⟩]) (
 .seq (
 .reg [
   ⟨some 5, .mov (.t 1), none⟩,
   ⟨some 6, .faddr 0 (.t 2), none⟩,
   ⟨some 7, .load false 1 (.t 6), none⟩,
   ⟨some 8, .lens (.t 7), none⟩,
   ⟨some 9, .bin .sub (.t 5) (.t 8), none⟩,
   ⟨some 1, .mov (.t 9), none⟩]) (
 .seq (
 .seq (
 .reg [
   ⟨some 10, .mov (.t 1), none⟩,
   ⟨some 11, .bin .lss (.t 10) (.k (.val (.int .i64 0))), none⟩]) (
 .cond (.t 11) (
  .seq (
  .reg [
    ⟨some 4, .mov (.k (.val (.int .i64 (-1)))), none⟩]) (
  .ret)) (
  .skip))) (
 .seq (
 .reg [
   ⟨some 12, .faddr 2 (.t 2), none⟩,
   ⟨some 13, .load false 1 (.t 12), none⟩,
   ⟨some 14, .mov (.t 1), none⟩,
   ⟨some 15, .call 113 [.t 13, .t 14], none⟩,
   ⟨some 1, .mov (.t 15), none⟩]) (
 .seq (
 .seq (
 .reg [
   ⟨some 16, .mov (.t 1), none⟩,
   ⟨some 17, .bin .lss (.t 16) (.k (.val (.int .i64 0))), none⟩]) (
 .cond (.t 17) (
  .seq (
  .reg [
    ⟨some 4, .mov (.k (.val (.int .i64 (-1)))), none⟩]) (
  .ret)) (
  .skip))) (
 .seq (
 .reg [
   ⟨some 18, .mov (.t 1), none⟩,
   ⟨some 4, .mov (.t 18), none⟩]) (
 .ret))))))
theorem ok48 : chkFn Tryz.prog 48 ir48 2 [.t 4] = true := by kernel_rfl

/-- loop.example/g00779/laws.toGroup -/
def ir49 : PC :=
 .seq (
 .reg [
   ⟨some 1, .box (.t 0), none⟩,
   ⟨some 2, .alloc [.val (.str ⟨#[]⟩), .val (.int .i64 0), .emp 3], none⟩]) (
 .seq (
 .reg [
   ⟨some 3, .alloc [.val (.str ⟨#[]⟩), .val (.int .i64 0), .emp 3], none⟩]) (
 .seq (
 .reg [
   ⟨some 4, .faddr 0 (.t 1), none⟩,
   ⟨some 5, .load false 1 (.t 4), none⟩,
   ⟨some 6, .faddr 0 (.t 3), none⟩,
   ⟨none, .store 1 (.t 6) (.t 5), none⟩]) (
 .seq (
 .reg [
   ⟨some 7, .faddr 1 (.t 1), none⟩,
   ⟨some 8, .load false 1 (.t 7), none⟩,
   ⟨some 9, .faddr 1 (.t 3), none⟩,
   ⟨none, .store 1 (.t 9) (.t 8), none⟩]) (
 .seq (
 .reg [
   ⟨some 10, .faddr 2 (.t 1), none⟩,
   ⟨some 11, .load false 1 (.t 10), none⟩,
   ⟨some 12, .call 114 [.t 11], none⟩,
   ⟨some 13, .faddr 2 (.t 3), none⟩,
   ⟨none, .store 1 (.t 13) (.t 12), none⟩]) (
 .seq (
 .reg [
   ⟨some 14, .load true 3 (.t 3), none⟩,
   ⟨none, .store 3 (.t 2) (.t 14), none⟩]) (
 .ret))))))
theorem ok49 : chkFn Tryz.prog 49 ir49 1 [.c 2 true 3] = true := by kernel_rfl

/-- loop.example/g00779/laws.eqGroup -/
def ir50 : PC :=
 .seq (
 .reg [
   ⟨some 2, .box (.t 0), none⟩,
   ⟨some 3, .box (.t 1), none⟩,
   ⟨some 4, .mov (.k (.val (.bool false))), none⟩]) (
 .seq (
 .seq (
 .reg [
   ⟨some 5, .faddr 0 (.t 2), none⟩,
   ⟨some 6, .load false 1 (.t 5), none⟩,
   ⟨some 7, .faddr 0 (.t 3), none⟩,
   ⟨some 8, .load false 1 (.t 7), none⟩,
   ⟨some 9, .bin .neq (.t 6) (.t 8), none⟩]) (
 .cond (.t 9) (
  .seq (
  .reg [
    ⟨some 4, .mov (.k (.val (.bool false))), none⟩]) (
  .ret)) (
  .skip))) (
 .seq (
 .seq (
 .reg [
   ⟨some 10, .faddr 1 (.t 2), none⟩,
   ⟨some 11, .load false 1 (.t 10), none⟩,
   ⟨some 12, .faddr 1 (.t 3), none⟩,
   ⟨some 13, .load false 1 (.t 12), none⟩,
   ⟨some 14, .bin .neq (.t 11) (.t 13), none⟩]) (
 .cond (.t 14) (
  .seq (
  .reg [
    ⟨some 4, .mov (.k (.val (.bool false))), none⟩]) (
  .ret)) (
  .skip))) (
 .seq (
 .seq (
 .reg [
   ⟨some 15, .faddr 2 (.t 2), none⟩,
   ⟨some 16, .load false 1 (.t 15), none⟩,
   ⟨some 17, .faddr 2 (.t 3), none⟩,
   ⟨some 18, .load false 1 (.t 17), none⟩,
   ⟨some 19, .call 115 [.t 16, .t 18], none⟩,
   ⟨some 20, .un .not (.t 19), none⟩]) (
 .cond (.t 20) (
  .seq (
  .reg [
    ⟨some 4, .mov (.k (.val (.bool false))), none⟩]) (
  .ret)) (
  .skip))) (
 .seq (
 .reg [
   ⟨some 4, .mov (.k (.val (.bool true))), none⟩]) (
 .ret)))))
theorem ok50 : chkFn Tryz.prog 50 ir50 2 [.t 4] = true := by kernel_rfl

def ir116_l6 : PC :=
 .seq (
 .seq (
 .reg [
   ⟨some 6, .mov (.t 5), none⟩,
   ⟨some 7, .mov (.t 0), none⟩,
   ⟨some 8, .len (.t 7), none⟩,
   ⟨some 9, .bin .lss (.t 6) (.t 8), none⟩]) (
 .cond (.t 9) (
  .skip) (
  .exit 0))) (
 .seq (
 .block 1 (
  .seq (
  .reg [
    ⟨some 12, .mov (.t 0), none⟩,
    ⟨some 13, .mov (.t 5), none⟩,
    ⟨some 14, .mov (.t 1), none⟩,
    ⟨some 15, .call 71 [.t 14], none⟩,
    ⟨some 16, .iaddr 3 (.t 12) (.t 13), none⟩,
    ⟨some 17, .faddr 0 (.t 16), none⟩,
    ⟨none, .store 1 (.t 17) (.t 15), none⟩]) (
  .seq (
  .reg [
    ⟨some 18, .mov (.t 1), none⟩,
    ⟨some 19, .bin .add (.t 18) (.k (.val (.int .i64 1))), none⟩,
    ⟨some 1, .mov (.t 19), none⟩]) (
  .seq (
  .reg [
    ⟨some 20, .mov (.t 0), none⟩,
    ⟨some 21, .mov (.t 5), none⟩,
    ⟨some 22, .mov (.t 1), none⟩,
    ⟨some 23, .iaddr 3 (.t 20) (.t 21), none⟩,
    ⟨some 24, .faddr 1 (.t 23), none⟩,
    ⟨none, .store 1 (.t 24) (.t 22), none⟩]) (
  .seq (
  .reg [
    ⟨some 25, .mov (.t 1), none⟩,
    ⟨some 26, .bin .add (.t 25) (.k (.val (.int .i64 1))), none⟩,
    ⟨some 1, .mov (.t 26), none⟩]) (
  .seq (
  .reg [
    ⟨some 27, .mov (.t 0), none⟩,
    ⟨some 28, .mov (.t 5), none⟩,
    ⟨some 29, .mov (.t 1), none⟩,
    ⟨some 30, .iaddr 3 (.t 27) (.t 28), none⟩,
    ⟨some 31, .faddr 2 (.t 30), none⟩,
    ⟨none, .store 1 (.t 31) (.t 29), none⟩]) (
  .reg [
    ⟨some 32, .mov (.t 1), none⟩,
    ⟨some 33, .bin .add (.t 32) (.k (.val (.int .i64 1))), none⟩,
    ⟨some 1, .mov (.t 33), none⟩]))))))) (
 .reg [
   ⟨some 10, .mov (.t 5), none⟩,
   ⟨some 11, .bin .add (.t 10) (.k (.val (.int .i64 1))), none⟩,
   ⟨some 5, .mov (.t 11), none⟩]))
/-- loop.example/g00779/laws.markTargetS -/
def ir116 : PC :=
 .seq (
 .reg [
   ⟨some 4, .mov (.k (.val (.int .i64 0))), none⟩]) (
 .seq (
 .seq (
 .reg [
   ⟨some 5, .mov (.k (.val (.int .i64 0))), none⟩]) (
 .block 0 (
  .loop (.ghost ir116_l6)))) (
 .seq (
 .reg [
   ⟨some 34, .mov (.t 1), none⟩,
   ⟨some 4, .mov (.t 34), none⟩]) (
 .ret)))
theorem ok116 : chkFn Tryz.prog 116 ir116 2 [.t 4] = true := by kernel_rfl

/-- loop.example/g00779/laws.markGroup -/
def ir51 : PC :=
 .seq (
 .reg [
   ⟨some 2, .box (.t 0), none⟩,
   ⟨some 4, .mov (.k (.val (.int .i64 0))), none⟩]) (
 .seq (
 .reg [
   ⟨some 5, .faddr 2 (.t 2), none⟩,
   ⟨some 6, .load false 1 (.t 5), none⟩,
   ⟨some 7, .mov (.t 1), none⟩,
   ⟨some 8, .callr 116 (.t 6) [.t 7], none⟩,
   ⟨some 1, .mov (.t 8), none⟩]) (
 .seq (
 .reg [
   ⟨some 9, .mov (.t 1), none⟩,
   ⟨some 4, .mov (.t 9), none⟩]) (
 .ret)))
theorem ok51 : chkFn Tryz.prog 51 ir51 2 [.t 4] = true := by kernel_rfl

end Go.Proofs
end

/- Functions of the seat as data. MADE BY PROGRAM (print_ir.py). -/
section
set_option maxRecDepth 100000
namespace Go.Proofs
open Go.PW

/-- loop.example/g00779/spec.l03At -/
def ir179 : PC :=
 .seq (
 .reg [
   ⟨some 4, .mov (.k (.val (.int .i64 0))), none⟩]) (
 .seq (
 .seq (
 .reg [
   ⟨some 5, .mov (.k (.val (.int .i64 0))), none⟩]) (
 .block 0 (
  .loop (.ghost (
   .seq (
   .seq (
   .reg [
     ⟨some 6, .mov (.t 5), none⟩,
     ⟨some 7, .mov (.t 0), none⟩,
     ⟨some 8, .len (.t 7), none⟩,
     ⟨some 9, .bin .lss (.t 6) (.t 8), none⟩]) (
   .cond (.t 9) (
    .skip) (
    .exit 0))) (
   .seq (
   .block 1 (
    .seq (
    .reg [
      ⟨some 12, .mov (.t 0), none⟩,
      ⟨some 13, .mov (.t 5), none⟩,
      ⟨some 14, .iaddr 3 (.t 12) (.t 13), none⟩,
      ⟨some 15, .faddr 0 (.t 14), none⟩,
      ⟨some 16, .load false 1 (.t 15), none⟩,
      ⟨some 17, .mov (.t 1), none⟩,
      ⟨some 18, .bin .eql (.t 16) (.t 17), none⟩]) (
    .cond (.t 18) (
     .seq (
     .reg [
       ⟨some 19, .mov (.t 5), none⟩,
       ⟨some 4, .mov (.t 19), none⟩]) (
     .ret)) (
     .skip)))) (
   .reg [
     ⟨some 10, .mov (.t 5), none⟩,
     ⟨some 11, .bin .add (.t 10) (.k (.val (.int .i64 1))), none⟩,
     ⟨some 5, .mov (.t 11), none⟩]))))))) (
 .seq (
 .reg [
   ⟨some 4, .mov (.k (.val (.int .i64 (-1)))), none⟩]) (
 .ret)))
theorem ok179 : chkFn Tryz.prog 179 ir179 2 [.t 4] = true := by kernel_rfl

/-- loop.example/g00779/spec.l03OK -/
def ir110 : PC :=
 .seq (
 .reg [
   ⟨some 1, .box (.t 0), none⟩,
   ⟨some 2, .mov (.k (.val (.bool false))), none⟩]) (
 .seq (
 .seq (
 .reg [
   ⟨some 4, .faddr 0 (.t 1), none⟩,
   ⟨some 5, .load false 1 (.t 4), none⟩,
   ⟨some 6, .call 185 [.t 5], none⟩,
   ⟨some 7, .un .not (.t 6), none⟩,
   ⟨some 8, .mov (.t 7), none⟩,
   ⟨some 9, .faddr 1 (.t 1), some (8, false)⟩,
   ⟨some 10, .load false 1 (.t 9), some (8, false)⟩,
   ⟨some 11, .call 86 [.t 10, .k (.val (.int .i64 1)), .k (.val (.int .i64 100))], some (8, false)⟩,
   ⟨some 12, .un .not (.t 11), some (8, false)⟩,
   ⟨some 13, .pick (.t 8) (.k (.val (.bool true))) (.t 12), none⟩,
   ⟨some 14, .mov (.t 13), none⟩,
   ⟨some 15, .faddr 2 (.t 1), some (14, false)⟩,
   ⟨some 16, .load false 1 (.t 15), some (14, false)⟩,
   ⟨some 17, .len (.t 16), some (14, false)⟩,
   ⟨some 18, .call 86 [.t 17, .k (.val (.int .i64 1)), .k (.val (.int .i64 4))], some (14, false)⟩,
   ⟨some 19, .un .not (.t 18), some (14, false)⟩,
   ⟨some 20, .pick (.t 14) (.k (.val (.bool true))) (.t 19), none⟩]) (
 .cond (.t 20) (
  .seq (
  .reg [
    ⟨some 2, .mov (.k (.val (.bool false))), none⟩]) (
  .ret)) (
  .skip))) (
 .seq (
 .seq (
 .reg [
   ⟨some 3, .mov (.k (.val (.int .i64 0))), none⟩]) (
 .block 0 (
  .loop (.ghost (
   .seq (
   .seq (
   .reg [
     ⟨some 21, .mov (.t 3), none⟩,
     ⟨some 22, .faddr 2 (.t 1), none⟩,
     ⟨some 23, .load false 1 (.t 22), none⟩,
     ⟨some 24, .len (.t 23), none⟩,
     ⟨some 25, .bin .lss (.t 21) (.t 24), none⟩]) (
   .cond (.t 25) (
    .skip) (
    .exit 0))) (
   .seq (
   .block 1 (
    .seq (
    .draw [
      ⟨some 28, .faddr 2 (.t 1), none⟩,
      ⟨some 29, .load false 1 (.t 28), none⟩,
      ⟨some 30, .mov (.t 3), none⟩,
      ⟨some 31, .iaddr 3 (.t 29) (.t 30), none⟩,
      ⟨some 32, .load true 3 (.t 31), none⟩,
      ⟨some 33, .call 184 [.t 32], none⟩,
      ⟨some 34, .un .not (.t 33), none⟩,
      ⟨some 35, .mov (.t 34), none⟩,
      ⟨some 36, .faddr 2 (.t 1), some (35, false)⟩,
      ⟨some 37, .load false 1 (.t 36), some (35, false)⟩,
      ⟨some 38, .faddr 2 (.t 1), some (35, false)⟩,
      ⟨some 39, .load false 1 (.t 38), some (35, false)⟩,
      ⟨some 40, .mov (.t 3), some (35, false)⟩,
      ⟨some 41, .iaddr 3 (.t 39) (.t 40), some (35, false)⟩,
      ⟨some 42, .faddr 0 (.t 41), some (35, false)⟩,
      ⟨some 43, .load false 1 (.t 42), some (35, false)⟩,
      ⟨some 44, .call 179 [.t 37, .t 43], some (35, false)⟩,
      ⟨some 45, .mov (.t 3), some (35, false)⟩,
      ⟨some 46, .bin .neq (.t 44) (.t 45), some (35, false)⟩,
      ⟨some 47, .pick (.t 35) (.k (.val (.bool true))) (.t 46), none⟩] []) (
    .cond (.t 47) (
     .seq (
     .reg [
       ⟨some 2, .mov (.k (.val (.bool false))), none⟩]) (
     .ret)) (
     .skip)))) (
   .reg [
     ⟨some 26, .mov (.t 3), none⟩,
     ⟨some 27, .bin .add (.t 26) (.k (.val (.int .i64 1))), none⟩,
     ⟨some 3, .mov (.t 27), none⟩]))))))) (
 .seq (
 .reg [
   ⟨some 2, .mov (.k (.val (.bool true))), none⟩]) (
 .ret))))
theorem ok110 : chkFn Tryz.prog 110 ir110 1 [.t 2] = true := by kernel_rfl

/-- loop.example/g00779/spec.l07Of -/
def ir112 : PC :=
 .seq (
 .reg [
   ⟨some 1, .box (.t 0), none⟩,
   ⟨some 2, .mov (.k (.emp 6)), none⟩]) (
 .seq (
 .reg [
   ⟨some 5, .lit 67 6 [], none⟩,
   ⟨some 3, .mov (.t 5), none⟩]) (
 .seq (
 .seq (
 .reg [
   ⟨some 4, .mov (.k (.val (.int .i64 0))), none⟩]) (
 .block 0 (
  .loop (.ghost (
   .seq (
   .seq (
   .reg [
     ⟨some 6, .mov (.t 4), none⟩,
     ⟨some 7, .faddr 2 (.t 1), none⟩,
     ⟨some 8, .load false 1 (.t 7), none⟩,
     ⟨some 9, .len (.t 8), none⟩,
     ⟨some 10, .bin .lss (.t 6) (.t 9), none⟩]) (
   .cond (.t 10) (
    .skip) (
    .exit 0))) (
   .seq (
   .block 1 (
    .reg [
      ⟨some 13, .mov (.t 3), none⟩,
      ⟨some 14, .faddr 2 (.t 1), none⟩,
      ⟨some 15, .load false 1 (.t 14), none⟩,
      ⟨some 16, .mov (.t 4), none⟩,
      ⟨some 17, .iaddr 3 (.t 15) (.t 16), none⟩,
      ⟨some 18, .load true 3 (.t 17), none⟩,
      ⟨some 19, .build [.val (.str ⟨#[]⟩), .val (.int .i64 0), .val (.int .i64 0), .val (.int .i64 0), .val (.int .i64 0), .val (.bool false)] [(0, 3, .t 18)], none⟩,
      ⟨some 20, .lit 67 6 [.t 19], none⟩,
      ⟨some 21, .app 67 6 56 (.t 13) (.t 20), none⟩,
      ⟨some 3, .mov (.t 21), none⟩])) (
   .reg [
     ⟨some 11, .mov (.t 4), none⟩,
     ⟨some 12, .bin .add (.t 11) (.k (.val (.int .i64 1))), none⟩,
     ⟨some 4, .mov (.t 12), none⟩]))))))) (
 .seq (
 .reg [
   ⟨some 22, .mov (.t 3), none⟩,
   ⟨some 2, .mov (.t 22), none⟩]) (
 .ret))))
theorem ok112 : chkFn Tryz.prog 112 ir112 1 [.t 2] = true := by kernel_rfl

/-- loop.example/g00779/spec.PeersOf -/
def ir46 : PC :=
 .seq (
 .reg [
   ⟨some 1, .box (.t 0), none⟩,
   ⟨some 2, .mov (.k (.emp 6)), none⟩,
   ⟨some 3, .mov (.k (.val (.int .i64 0))), none⟩]) (
 .seq (
 .seq (
 .reg [
   ⟨some 4, .load true 3 (.t 1), none⟩,
   ⟨some 5, .call 110 [.t 4], none⟩,
   ⟨some 6, .un .not (.t 5), none⟩]) (
 .cond (.t 6) (
  .seq (
  .reg [
    ⟨some 7, .lit 67 6 [], none⟩,
    ⟨some 2, .mov (.t 7), none⟩,
    ⟨some 3, .mov (.k (.val (.int .i64 1))), none⟩]) (
  .ret)) (
  .skip))) (
 .seq (
 .reg [
   ⟨some 8, .load true 3 (.t 1), none⟩,
   ⟨some 9, .call 112 [.t 8], none⟩,
   ⟨some 2, .mov (.t 9), none⟩,
   ⟨some 3, .mov (.k (.val (.int .i64 0))), none⟩]) (
 .ret)))
theorem ok46 : chkFn Tryz.prog 46 ir46 1 [.t 2, .t 3] = true := by kernel_rfl

def ir111_l16 : PC :=
 .seq (
 .seq (
 .reg [
   ⟨some 16, .mov (.t 7), none⟩,
   ⟨some 17, .mov (.t 0), none⟩,
   ⟨some 18, .len (.t 17), none⟩,
   ⟨some 19, .bin .lss (.t 16) (.t 18), none⟩]) (
 .cond (.t 19) (
  .skip) (
  .exit 2))) (
 .seq (
 .block 3 (
  .seq (
  .draw [
    ⟨some 22, .mov (.t 0), none⟩,
    ⟨some 23, .mov (.t 7), none⟩,
    ⟨some 24, .iaddr 6 (.t 22) (.t 23), none⟩,
    ⟨some 25, .faddr 0 (.t 24), none⟩,
    ⟨some 26, .faddr 0 (.t 25), none⟩,
    ⟨some 27, .load false 1 (.t 26), none⟩,
    ⟨some 28, .mov (.t 5), none⟩,
    ⟨some 29, .mov (.t 6), none⟩,
    ⟨some 30, .iaddr 6 (.t 28) (.t 29), none⟩,
    ⟨some 31, .faddr 0 (.t 30), none⟩,
    ⟨some 32, .faddr 0 (.t 31), none⟩,
    ⟨some 33, .load false 1 (.t 32), none⟩,
    ⟨some 34, .bin .eql (.t 27) (.t 33), none⟩,
    ⟨some 35, .mov (.t 34), none⟩,
    ⟨some 36, .mov (.t 0), some (35, true)⟩,
    ⟨some 37, .mov (.t 7), some (35, true)⟩,
    ⟨some 38, .iaddr 6 (.t 36) (.t 37), some (35, true)⟩,
    ⟨some 39, .faddr 5 (.t 38), some (35, true)⟩,
    ⟨some 40, .load false 1 (.t 39), some (35, true)⟩,
    ⟨some 41, .un .not (.t 40), some (35, true)⟩,
    ⟨some 42, .pick (.t 35) (.t 41) (.k (.val (.bool false))), none⟩] []) (
  .cond (.t 42) (
   .seq (
   .reg [
     ⟨some 43, .mov (.t 5), none⟩,
     ⟨some 44, .mov (.t 6), none⟩,
     ⟨some 45, .mov (.t 0), none⟩,
     ⟨some 46, .mov (.t 7), none⟩,
     ⟨some 47, .iaddr 6 (.t 45) (.t 46), none⟩,
     ⟨some 48, .faddr 3 (.t 47), none⟩,
     ⟨some 49, .load false 1 (.t 48), none⟩,
     ⟨some 50, .iaddr 6 (.t 43) (.t 44), none⟩,
     ⟨some 51, .faddr 3 (.t 50), none⟩,
     ⟨none, .store 1 (.t 51) (.t 49), none⟩]) (
   .reg [
     ⟨some 52, .mov (.t 5), none⟩,
     ⟨some 53, .mov (.t 6), none⟩,
     ⟨some 54, .mov (.t 0), none⟩,
     ⟨some 55, .mov (.t 7), none⟩,
     ⟨some 56, .iaddr 6 (.t 54) (.t 55), none⟩,
     ⟨some 57, .faddr 4 (.t 56), none⟩,
     ⟨some 58, .load false 1 (.t 57), none⟩,
     ⟨some 59, .iaddr 6 (.t 52) (.t 53), none⟩,
     ⟨some 60, .faddr 4 (.t 59), none⟩,
     ⟨none, .store 1 (.t 60) (.t 58), none⟩])) (
   .skip)))) (
 .reg [
   ⟨some 20, .mov (.t 7), none⟩,
   ⟨some 21, .bin .add (.t 20) (.k (.val (.int .i64 1))), none⟩,
   ⟨some 7, .mov (.t 21), none⟩]))
/-- loop.example/g00779/spec.l07Keep -/
def ir111 : PC :=
 .seq (
 .reg [
   ⟨some 3, .box (.t 1), none⟩,
   ⟨some 4, .mov (.k (.emp 6)), none⟩]) (
 .seq (
 .reg [
   ⟨some 8, .load true 3 (.t 3), none⟩,
   ⟨some 9, .call 112 [.t 8], none⟩,
   ⟨some 5, .mov (.t 9), none⟩]) (
 .seq (
 .seq (
 .reg [
   ⟨some 6, .mov (.k (.val (.int .i64 0))), none⟩]) (
 .block 0 (
  .loop (.ghost (
   .seq (
   .seq (
   .reg [
     ⟨some 10, .mov (.t 6), none⟩,
     ⟨some 11, .mov (.t 5), none⟩,
     ⟨some 12, .len (.t 11), none⟩,
     ⟨some 13, .bin .lss (.t 10) (.t 12), none⟩]) (
   .cond (.t 13) (
    .skip) (
    .exit 0))) (
   .seq (
   .block 1 (
    .seq (
    .reg [
      ⟨some 7, .mov (.k (.val (.int .i64 0))), none⟩]) (
    .block 2 (
     .loop (.ghost ir111_l16))))) (
   .reg [
     ⟨some 14, .mov (.t 6), none⟩,
     ⟨some 15, .bin .add (.t 14) (.k (.val (.int .i64 1))), none⟩,
     ⟨some 6, .mov (.t 15), none⟩]))))))) (
 .seq (
 .reg [
   ⟨some 61, .mov (.t 5), none⟩,
   ⟨some 4, .mov (.t 61), none⟩]) (
 .ret))))
theorem ok111 : chkFn Tryz.prog 111 ir111 2 [.t 4] = true := by kernel_rfl

/-- loop.example/g00779/spec.KeepPeers -/
def ir44 : PC :=
 .seq (
 .reg [
   ⟨some 3, .box (.t 1), none⟩,
   ⟨some 4, .mov (.k (.emp 6)), none⟩,
   ⟨some 5, .mov (.k (.val (.int .i64 0))), none⟩]) (
 .seq (
 .seq (
 .reg [
   ⟨some 6, .mov (.t 0), none⟩,
   ⟨some 7, .len (.t 6), none⟩,
   ⟨some 8, .bin .gtr (.t 7) (.k (.val (.int .i64 4096))), none⟩]) (
 .cond (.t 8) (
  .seq (
  .reg [
    ⟨some 9, .lit 67 6 [], none⟩,
    ⟨some 4, .mov (.t 9), none⟩,
    ⟨some 5, .mov (.k (.val (.int .i64 2))), none⟩]) (
  .ret)) (
  .skip))) (
 .seq (
 .seq (
 .reg [
   ⟨some 10, .mov (.t 0), none⟩,
   ⟨some 11, .call 109 [.t 10], none⟩,
   ⟨some 12, .un .not (.t 11), none⟩,
   ⟨some 13, .mov (.t 12), none⟩,
   ⟨some 14, .load true 3 (.t 3), some (13, false)⟩,
   ⟨some 15, .call 110 [.t 14], some (13, false)⟩,
   ⟨some 16, .un .not (.t 15), some (13, false)⟩,
   ⟨some 17, .pick (.t 13) (.k (.val (.bool true))) (.t 16), none⟩]) (
 .cond (.t 17) (
  .seq (
  .reg [
    ⟨some 18, .lit 67 6 [], none⟩,
    ⟨some 4, .mov (.t 18), none⟩,
    ⟨some 5, .mov (.k (.val (.int .i64 1))), none⟩]) (
  .ret)) (
  .skip))) (
 .seq (
 .reg [
   ⟨some 19, .mov (.t 0), none⟩,
   ⟨some 20, .load true 3 (.t 3), none⟩,
   ⟨some 21, .call 111 [.t 19, .t 20], none⟩,
   ⟨some 4, .mov (.t 21), none⟩,
   ⟨some 5, .mov (.k (.val (.int .i64 0))), none⟩]) (
 .ret))))
theorem ok44 : chkFn Tryz.prog 44 ir44 2 [.t 4, .t 5] = true := by kernel_rfl

/-- loop.example/g00779/impl.GroupOK$1 -/
def ir183 : PC :=
 .seq (
 .reg [
   ⟨some 1, .box (.t 0), none⟩,
   ⟨some 2, .mov (.k (.val (.bool false))), none⟩]) (
 .seq (
 .reg [
   ⟨some 3, .load true 3 (.t 1), none⟩,
   ⟨some 4, .call 125 [.t 3], none⟩,
   ⟨some 5, .un .not (.t 4), none⟩,
   ⟨some 2, .mov (.t 5), none⟩]) (
 .ret))
theorem ok183 : chkFn Tryz.prog 183 ir183 1 [.t 2] = true := by kernel_rfl

/-- loop.example/g00779/impl.GroupOK -/
def ir107 : PC :=
 .seq (
 .reg [
   ⟨some 1, .box (.t 0), none⟩,
   ⟨some 2, .mov (.k (.val (.bool false))), none⟩]) (
 .seq (
 .reg [
   ⟨some 3, .faddr 0 (.t 1), none⟩,
   ⟨some 4, .load false 1 (.t 3), none⟩,
   ⟨some 5, .call 171 [.t 4], none⟩,
   ⟨some 6, .mov (.t 5), none⟩,
   ⟨some 7, .faddr 1 (.t 1), some (6, true)⟩,
   ⟨some 8, .load false 1 (.t 7), some (6, true)⟩,
   ⟨some 9, .call 126 [.t 8, .k (.val (.int .i64 1)), .k (.val (.int .i64 100))], some (6, true)⟩,
   ⟨some 10, .pick (.t 6) (.t 9) (.k (.val (.bool false))), none⟩,
   ⟨some 11, .mov (.t 10), none⟩,
   ⟨some 12, .faddr 2 (.t 1), some (11, true)⟩,
   ⟨some 13, .load false 1 (.t 12), some (11, true)⟩,
   ⟨some 14, .len (.t 13), some (11, true)⟩,
   ⟨some 15, .call 126 [.t 14, .k (.val (.int .i64 1)), .k (.val (.int .i64 4))], some (11, true)⟩,
   ⟨some 16, .pick (.t 11) (.t 15) (.k (.val (.bool false))), none⟩,
   ⟨some 17, .mov (.t 16), none⟩,
   ⟨some 18, .faddr 2 (.t 1), some (17, true)⟩,
   ⟨some 19, .load false 1 (.t 18), some (17, true)⟩,
   ⟨some 20, .call 121 [.t 19], some (17, true)⟩,
   ⟨some 21, .pick (.t 17) (.t 20) (.k (.val (.bool false))), none⟩,
   ⟨some 22, .mov (.t 21), none⟩,
   ⟨some 23, .faddr 2 (.t 1), some (22, true)⟩,
   ⟨some 24, .load false 1 (.t 23), some (22, true)⟩,
   ⟨some 25, .call 182 [.t 24, .k (.fn 183 [])], some (22, true)⟩,
   ⟨some 26, .un .not (.t 25), some (22, true)⟩,
   ⟨some 27, .pick (.t 22) (.t 26) (.k (.val (.bool false))), none⟩,
   ⟨some 2, .mov (.t 27), none⟩]) (
 .ret))
theorem ok107 : chkFn Tryz.prog 107 ir107 1 [.t 2] = true := by kernel_rfl

def ir108_s38 : PC :=
 .any (.alt 0 ⟨some 38, .faddr 3 (.t 10), none⟩ (.alt 1 ⟨some 39, .load false 1 (.t 38), none⟩ (.alt 2 ⟨some 40, .faddr 4 (.t 10), none⟩ (.alt 3 ⟨some 41, .load false 1 (.t 40), none⟩ (.alt 4 ⟨some 42, .faddr 3 (.t 8), none⟩ (.alt 5 ⟨none, .store 1 (.t 42) (.t 39), none⟩ (.alt 6 ⟨some 43, .faddr 4 (.t 8), none⟩ (.alt 7 ⟨none, .store 1 (.t 43) (.t 41), none⟩ .done .stop) .stop) .stop) .stop) (.alt 4 ⟨some 42, .faddr 3 (.t 8), none⟩ (.alt 3 ⟨some 41, .load false 1 (.t 40), none⟩ (.alt 5 ⟨none, .store 1 (.t 42) (.t 39), none⟩ (.alt 6 ⟨some 43, .faddr 4 (.t 8), none⟩ (.alt 7 ⟨none, .store 1 (.t 43) (.t 41), none⟩ .done .stop) .stop) .stop) (.alt 5 ⟨none, .store 1 (.t 42) (.t 39), none⟩ (.alt 3 ⟨some 41, .load false 1 (.t 40), none⟩ (.alt 6 ⟨some 43, .faddr 4 (.t 8), none⟩ (.alt 7 ⟨none, .store 1 (.t 43) (.t 41), none⟩ .done .stop) .stop) .stop) .stop)) .stop)) (.alt 4 ⟨some 42, .faddr 3 (.t 8), none⟩ (.alt 2 ⟨some 40, .faddr 4 (.t 10), none⟩ (.alt 3 ⟨some 41, .load false 1 (.t 40), none⟩ (.alt 5 ⟨none, .store 1 (.t 42) (.t 39), none⟩ (.alt 6 ⟨some 43, .faddr 4 (.t 8), none⟩ (.alt 7 ⟨none, .store 1 (.t 43) (.t 41), none⟩ .done .stop) .stop) .stop) (.alt 5 ⟨none, .store 1 (.t 42) (.t 39), none⟩ (.alt 3 ⟨some 41, .load false 1 (.t 40), none⟩ (.alt 6 ⟨some 43, .faddr 4 (.t 8), none⟩ (.alt 7 ⟨none, .store 1 (.t 43) (.t 41), none⟩ .done .stop) .stop) .stop) .stop)) (.alt 5 ⟨none, .store 1 (.t 42) (.t 39), none⟩ (.alt 2 ⟨some 40, .faddr 4 (.t 10), none⟩ (.alt 3 ⟨some 41, .load false 1 (.t 40), none⟩ (.alt 6 ⟨some 43, .faddr 4 (.t 8), none⟩ (.alt 7 ⟨none, .store 1 (.t 43) (.t 41), none⟩ .done .stop) .stop) .stop) .stop) .stop)) .stop)) (.alt 2 ⟨some 40, .faddr 4 (.t 10), none⟩ (.alt 1 ⟨some 39, .load false 1 (.t 38), none⟩ (.alt 3 ⟨some 41, .load false 1 (.t 40), none⟩ (.alt 4 ⟨some 42, .faddr 3 (.t 8), none⟩ (.alt 5 ⟨none, .store 1 (.t 42) (.t 39), none⟩ (.alt 6 ⟨some 43, .faddr 4 (.t 8), none⟩ (.alt 7 ⟨none, .store 1 (.t 43) (.t 41), none⟩ .done .stop) .stop) .stop) .stop) (.alt 4 ⟨some 42, .faddr 3 (.t 8), none⟩ (.alt 3 ⟨some 41, .load false 1 (.t 40), none⟩ (.alt 5 ⟨none, .store 1 (.t 42) (.t 39), none⟩ (.alt 6 ⟨some 43, .faddr 4 (.t 8), none⟩ (.alt 7 ⟨none, .store 1 (.t 43) (.t 41), none⟩ .done .stop) .stop) .stop) (.alt 5 ⟨none, .store 1 (.t 42) (.t 39), none⟩ (.alt 3 ⟨some 41, .load false 1 (.t 40), none⟩ (.alt 6 ⟨some 43, .faddr 4 (.t 8), none⟩ (.alt 7 ⟨none, .store 1 (.t 43) (.t 41), none⟩ .done .stop) .stop) .stop) .stop)) .stop)) (.alt 3 ⟨some 41, .load false 1 (.t 40), none⟩ (.alt 1 ⟨some 39, .load false 1 (.t 38), none⟩ (.alt 4 ⟨some 42, .faddr 3 (.t 8), none⟩ (.alt 5 ⟨none, .store 1 (.t 42) (.t 39), none⟩ (.alt 6 ⟨some 43, .faddr 4 (.t 8), none⟩ (.alt 7 ⟨none, .store 1 (.t 43) (.t 41), none⟩ .done .stop) .stop) .stop) .stop) .stop) .stop)) .stop)) (.alt 2 ⟨some 40, .faddr 4 (.t 10), none⟩ (.alt 0 ⟨some 38, .faddr 3 (.t 10), none⟩ (.alt 1 ⟨some 39, .load false 1 (.t 38), none⟩ (.alt 3 ⟨some 41, .load false 1 (.t 40), none⟩ (.alt 4 ⟨some 42, .faddr 3 (.t 8), none⟩ (.alt 5 ⟨none, .store 1 (.t 42) (.t 39), none⟩ (.alt 6 ⟨some 43, .faddr 4 (.t 8), none⟩ (.alt 7 ⟨none, .store 1 (.t 43) (.t 41), none⟩ .done .stop) .stop) .stop) .stop) (.alt 4 ⟨some 42, .faddr 3 (.t 8), none⟩ (.alt 3 ⟨some 41, .load false 1 (.t 40), none⟩ (.alt 5 ⟨none, .store 1 (.t 42) (.t 39), none⟩ (.alt 6 ⟨some 43, .faddr 4 (.t 8), none⟩ (.alt 7 ⟨none, .store 1 (.t 43) (.t 41), none⟩ .done .stop) .stop) .stop) (.alt 5 ⟨none, .store 1 (.t 42) (.t 39), none⟩ (.alt 3 ⟨some 41, .load false 1 (.t 40), none⟩ (.alt 6 ⟨some 43, .faddr 4 (.t 8), none⟩ (.alt 7 ⟨none, .store 1 (.t 43) (.t 41), none⟩ .done .stop) .stop) .stop) .stop)) .stop)) (.alt 3 ⟨some 41, .load false 1 (.t 40), none⟩ (.alt 1 ⟨some 39, .load false 1 (.t 38), none⟩ (.alt 4 ⟨some 42, .faddr 3 (.t 8), none⟩ (.alt 5 ⟨none, .store 1 (.t 42) (.t 39), none⟩ (.alt 6 ⟨some 43, .faddr 4 (.t 8), none⟩ (.alt 7 ⟨none, .store 1 (.t 43) (.t 41), none⟩ .done .stop) .stop) .stop) .stop) .stop) .stop)) (.alt 3 ⟨some 41, .load false 1 (.t 40), none⟩ (.alt 0 ⟨some 38, .faddr 3 (.t 10), none⟩ (.alt 1 ⟨some 39, .load false 1 (.t 38), none⟩ (.alt 4 ⟨some 42, .faddr 3 (.t 8), none⟩ (.alt 5 ⟨none, .store 1 (.t 42) (.t 39), none⟩ (.alt 6 ⟨some 43, .faddr 4 (.t 8), none⟩ (.alt 7 ⟨none, .store 1 (.t 43) (.t 41), none⟩ .done .stop) .stop) .stop) .stop) .stop) .stop) .stop)) .stop))
/-- loop.example/g00779/impl.keepPeers -/
def ir108 : PC :=
 .seq (
 .reg [
   ⟨some 3, .box (.t 1), none⟩,
   ⟨some 4, .mov (.k (.emp 6)), none⟩]) (
 .seq (
 .reg [
   ⟨some 11, .lit 67 6 [], none⟩,
   ⟨some 5, .mov (.t 11), none⟩]) (
 .seq (
 .seq (
 .reg [
   ⟨some 12, .faddr 2 (.t 3), none⟩,
   ⟨some 13, .load false 1 (.t 12), none⟩,
   ⟨some 14, .len (.t 13), none⟩,
   ⟨some 15, .mov (.k (.val (.int .i64 0))), none⟩]) (
 .block 0 (
  .loop (.ghost (
   .seq (
   .reg [
     ⟨some 16, .bin .lss (.t 15) (.t 14), none⟩]) (
   .seq (
   .cond (.t 16) (
    .skip) (
    .exit 0)) (
   .seq (
   .block 1 (
    .seq (
    .reg [
      ⟨some 17, .iaddr 3 (.t 13) (.t 15), none⟩,
      ⟨some 18, .load true 3 (.t 17), none⟩,
      ⟨some 7, .alloc [.val (.str ⟨#[]⟩), .val (.int .i64 0), .val (.int .i64 0)], none⟩,
      ⟨none, .store 3 (.t 7) (.t 18), none⟩]) (
    .seq (
    .reg [
      ⟨some 19, .load true 3 (.t 7), none⟩,
      ⟨some 20, .build [.val (.str ⟨#[]⟩), .val (.int .i64 0), .val (.int .i64 0), .val (.int .i64 0), .val (.int .i64 0), .val (.bool false)] [(0, 3, .t 19)], none⟩,
      ⟨some 8, .alloc [.val (.str ⟨#[]⟩), .val (.int .i64 0), .val (.int .i64 0), .val (.int .i64 0), .val (.int .i64 0), .val (.bool false)], none⟩,
      ⟨none, .store 6 (.t 8) (.t 20), none⟩]) (
    .seq (
    .seq (
    .reg [
      ⟨some 21, .mov (.t 0), none⟩,
      ⟨some 22, .len (.t 21), none⟩,
      ⟨some 23, .mov (.k (.val (.int .i64 0))), none⟩]) (
    .block 2 (
     .loop (.ghost (
      .seq (
      .reg [
        ⟨some 24, .bin .lss (.t 23) (.t 22), none⟩]) (
      .seq (
      .cond (.t 24) (
       .skip) (
       .exit 2)) (
      .seq (
      .block 3 (
       .seq (
       .reg [
         ⟨some 25, .iaddr 6 (.t 21) (.t 23), none⟩,
         ⟨some 26, .load true 6 (.t 25), none⟩,
         ⟨some 10, .alloc [.val (.str ⟨#[]⟩), .val (.int .i64 0), .val (.int .i64 0), .val (.int .i64 0), .val (.int .i64 0), .val (.bool false)], none⟩,
         ⟨none, .store 6 (.t 10) (.t 26), none⟩]) (
       .seq (
       .reg [
         ⟨some 27, .faddr 0 (.t 10), none⟩,
         ⟨some 28, .faddr 0 (.t 27), none⟩,
         ⟨some 29, .load false 1 (.t 28), none⟩,
         ⟨some 30, .faddr 0 (.t 7), none⟩,
         ⟨some 31, .load false 1 (.t 30), none⟩,
         ⟨some 32, .bin .eql (.t 29) (.t 31), none⟩,
         ⟨some 33, .mov (.t 32), none⟩,
         ⟨some 34, .faddr 5 (.t 10), some (33, true)⟩,
         ⟨some 35, .load false 1 (.t 34), some (33, true)⟩,
         ⟨some 36, .un .not (.t 35), some (33, true)⟩,
         ⟨some 37, .pick (.t 33) (.t 36) (.k (.val (.bool false))), none⟩]) (
       .cond (.t 37) (
        ir108_s38) (
        .skip))))) (
      .reg [
        ⟨some 44, .bin .add (.t 23) (.k (.val (.int .i64 1))), none⟩,
        ⟨some 23, .mov (.t 44), none⟩])))))))) (
    .reg [
      ⟨some 45, .mov (.t 5), none⟩,
      ⟨some 46, .load true 6 (.t 8), none⟩,
      ⟨some 47, .lit 67 6 [.t 46], none⟩,
      ⟨some 48, .app 67 6 56 (.t 45) (.t 47), none⟩,
      ⟨some 5, .mov (.t 48), none⟩]))))) (
   .reg [
     ⟨some 49, .bin .add (.t 15) (.k (.val (.int .i64 1))), none⟩,
     ⟨some 15, .mov (.t 49), none⟩])))))))) (
 .seq (
 .reg [
   ⟨some 50, .mov (.t 5), none⟩,
   ⟨some 4, .mov (.t 50), none⟩]) (
 .ret))))
theorem ok108 : chkFn Tryz.prog 108 ir108 2 [.t 4] = true := by kernel_rfl

/-- loop.example/g00779/impl.KeepPeers -/
def ir43 : PC :=
 .seq (
 .reg [
   ⟨some 3, .box (.t 1), none⟩,
   ⟨some 4, .mov (.k (.emp 6)), none⟩,
   ⟨some 5, .mov (.k (.val (.int .i64 0))), none⟩]) (
 .seq (
 .seq (
 .draw [
   ⟨some 7, .mov (.t 0), none⟩,
   ⟨some 8, .call 106 [.t 7], none⟩,
   ⟨some 9, .load true 3 (.t 3), none⟩] [
   ⟨some 10, .call 107 [.t 9], none⟩,
   ⟨some 11, .call 89 [.t 10, .k (.val (.int .i64 1))], none⟩,
   ⟨some 12, .lit 3 1 [.t 8, .t 11], none⟩,
   ⟨some 13, .call 88 [.t 12], none⟩,
   ⟨some 6, .mov (.t 13), none⟩]) (
 .seq (
 .reg [
   ⟨some 14, .mov (.t 6), none⟩,
   ⟨some 15, .bin .neq (.t 14) (.k (.val (.int .i64 0))), none⟩]) (
 .cond (.t 15) (
  .seq (
  .reg [
    ⟨some 16, .mov (.t 6), none⟩,
    ⟨some 4, .mov (.k (.emp 6)), none⟩,
    ⟨some 5, .mov (.t 16), none⟩]) (
  .ret)) (
  .skip)))) (
 .seq (
 .reg [
   ⟨some 17, .mov (.t 0), none⟩,
   ⟨some 18, .load true 3 (.t 3), none⟩,
   ⟨some 19, .call 108 [.t 17, .t 18], none⟩,
   ⟨some 4, .mov (.t 19), none⟩,
   ⟨some 5, .mov (.k (.val (.int .i64 0))), none⟩]) (
 .ret)))
theorem ok43 : chkFn Tryz.prog 43 ir43 2 [.t 4, .t 5] = true := by kernel_rfl

/-- loop.example/g00779/impl.PeersOf -/
def ir45 : PC :=
 .seq (
 .reg [
   ⟨some 1, .box (.t 0), none⟩,
   ⟨some 2, .mov (.k (.emp 6)), none⟩,
   ⟨some 3, .mov (.k (.val (.int .i64 0))), none⟩]) (
 .seq (
 .reg [
   ⟨some 4, .load true 3 (.t 1), none⟩,
   ⟨some 5, .call 43 [.k (.emp 6), .t 4], none⟩,
   ⟨some 6, .ext 0 (.t 5), none⟩,
   ⟨some 7, .ext 1 (.t 5), none⟩,
   ⟨some 2, .mov (.t 6), none⟩,
   ⟨some 3, .mov (.t 7), none⟩]) (
 .ret))
theorem ok45 : chkFn Tryz.prog 45 ir45 1 [.t 2, .t 3] = true := by kernel_rfl

end Go.Proofs
end

/- Plain words: marks of flat rows; what is known of peers that stay. -/
section
set_option linter.unusedVariables false
set_option linter.unusedSimpArgs false
namespace Go.KP

/-! ### Marks -/
def mkL {α : Type} (f : Nat → α) (w n k : Nat) : List α := (List.range n).map fun j => f (k + w * j)
theorem mkL_len {α : Type} (f : Nat → α) (w n k : Nat) : (mkL f w n k).length = n := by simp [mkL]
theorem mkL_at {α : Type} {f : Nat → α} {w n k j : Nat} (h : j < n) : (mkL f w n k)[j]'(by rw [mkL_len]; exact h) = f (k + w * j) := by simp [mkL]
theorem mkL_succ {α : Type} (f : Nat → α) (w i k : Nat) : mkL f w (i + 1) k = mkL f w i k ++ [f (k + w * i)] := by simp [mkL, List.range_succ]
/-- The first i elements marked. -/
def mkU {α : Type} (f : Nat → α) (w : Nat) (l : List α) (k i : Nat) : List α := mkL f w i k ++ l.drop i
theorem mkU_zero {α : Type} (f : Nat → α) (w : Nat) (l : List α) (k : Nat) : mkU f w l k 0 = l := by simp [mkU, mkL]
theorem mkU_all {α : Type} (f : Nat → α) (w : Nat) (l : List α) (k : Nat) : mkU f w l k l.length = mkL f w l.length k := by simp [mkU]
theorem mkU_len {α : Type} (f : Nat → α) (w : Nat) (l : List α) (k i : Nat) (h : i ≤ l.length) : (mkU f w l k i).length = l.length := by simp [mkU, mkL_len]; omega
theorem mkU_set {α : Type} (f : Nat → α) (w : Nat) (l : List α) (k i : Nat) (h : i < l.length) : (mkU f w l k i).set i (f (k + w * i)) = mkU f w l k (i + 1) := by
  unfold mkU
  rw [List.set_append_right _ _ (by rw [mkL_len]; exact Nat.le_refl _), mkL_len, Nat.sub_self, List.drop_eq_getElem_cons h, List.set_cons_zero, mkL_succ, List.append_assoc]
  rfl
def mkTarget (k : Nat) : LTarget := ⟨lmk k, ((k + 1 : Nat) : Int), ((k + 2 : Nat) : Int)⟩

/-! ### What is known of peers that stay -/
def lknown (u : Tx) (old : List LPeer) : Int × Int := old.foldl (fun a p => if p.target.url = u ∧ p.gone = false then (p.fails, p.retry) else a) (0, 0)
theorem lknown_take (u : Tx) (old : List LPeer) (k : Nat) (h : k < old.length) : lknown u (old.take (k + 1)) = if old[k].target.url = u ∧ old[k].gone = false then (old[k].fails, old[k].retry) else lknown u (old.take k) := by
  unfold lknown
  rw [List.take_add_one, List.getElem?_eq_getElem h, List.foldl_append]
  rfl
def lkeep1 (old : List LPeer) (t : LTarget) : LPeer := ⟨t, (lknown t.url old).1, (lknown t.url old).2, false⟩
theorem lkeep1_take (old : List LPeer) (t : LTarget) (k : Nat) (h : k < old.length) : lkeep1 (old.take (k + 1)) t = if old[k].target.url = t.url ∧ old[k].gone = false then { lkeep1 (old.take k) t with fails := old[k].fails, retry := old[k].retry } else lkeep1 (old.take k) t := by
  unfold lkeep1
  rw [lknown_take _ _ _ h]
  split <;> rfl
def lkeep (old : List LPeer) (ts : List LTarget) : List LPeer := ts.map (lkeep1 old)
theorem lkeep_len (old : List LPeer) (ts : List LTarget) : (lkeep old ts).length = ts.length := by simp [lkeep]
theorem lkeep_take (old : List LPeer) (ts : List LTarget) (i : Nat) (h : i < ts.length) : lkeep old (ts.take (i + 1)) = lkeep old (ts.take i) ++ [lkeep1 old ts[i]] := by
  unfold lkeep
  rw [List.take_add_one, List.getElem?_eq_getElem h, List.map_append]
  rfl
/-- The first i peers with all that is known, the i-th with what the first k tell. -/
def lrow (old : List LPeer) (ts : List LTarget) (i k : Nat) : List LPeer := lkeep old (ts.take i) ++ (match ts.drop i with | t :: r => lkeep1 (old.take k) t :: lkeep [] r | [] => [])
theorem lrow_start (old : List LPeer) (ts : List LTarget) : lrow old ts 0 0 = lkeep [] ts := by
  unfold lrow
  cases ts <;> simp [lkeep]
theorem lrow_len (old : List LPeer) (ts : List LTarget) (i k : Nat) (h : i ≤ ts.length) : (lrow old ts i k).length = ts.length := by
  unfold lrow
  by_cases h1 : i < ts.length
  · rw [List.drop_eq_getElem_cons h1]; simp [lkeep]; omega
  · rw [List.drop_eq_nil_of_le (by omega)]; simp [lkeep]; omega
theorem lrow_all (old : List LPeer) (ts : List LTarget) (k : Nat) : lrow old ts ts.length k = lkeep old ts := by simp [lrow]
theorem lrow_at (old : List LPeer) (ts : List LTarget) (i k : Nat) (h : i < ts.length) : (lrow old ts i k)[i]'(by rw [lrow_len _ _ _ _ (by omega)]; exact h) = lkeep1 (old.take k) ts[i] := by
  have h2 : (lkeep old (ts.take i)).length = i := by simp [lkeep]; omega
  simp only [lrow, List.drop_eq_getElem_cons h]
  rw [List.getElem_append_right (by omega)]
  simp [h2]
theorem lrow_set (old : List LPeer) (ts : List LTarget) (i k : Nat) (h : i < ts.length) (y : LPeer) (hy : y = lkeep1 (old.take (k + 1)) ts[i]) : (lrow old ts i k).set i y = lrow old ts i (k + 1) := by
  have h2 : (lkeep old (ts.take i)).length = i := by simp [lkeep]; omega
  simp only [lrow, List.drop_eq_getElem_cons h]
  rw [List.set_append_right _ _ (by omega), h2, Nat.sub_self, List.set_cons_zero, hy]
theorem lrow_next (old : List LPeer) (ts : List LTarget) (i : Nat) (h : i < ts.length) : lrow old ts i old.length = lrow old ts (i + 1) 0 := by
  simp only [lrow, List.drop_eq_getElem_cons h, List.take_length]
  rw [lkeep_take _ _ _ h, List.append_assoc]
  congr 1
  cases h3 : ts.drop (i + 1) with
  | nil => simp [lkeep]
  | cons t r => simp [lkeep]
def lkeepC (old : List LPeer) (g : LGroup) : Int := if 4096 < old.length then 2 else if lpeersOK old then (if lgroupOK g then 0 else 1) else 1
theorem lpeersOK_len {l : List LPeer} (h : lpeersOK l = true) : l.length ≤ 4 := by
  unfold lpeersOK at h
  simp only [Bool.and_eq_true, decide_eq_true_eq] at h
  exact h.1.1
theorem lgroupOK_len {g : LGroup} (h : lgroupOK g = true) : 1 ≤ g.targets.length ∧ g.targets.length ≤ 4 := by
  unfold lgroupOK at h
  simp only [Bool.and_eq_true, decide_eq_true_eq] at h
  exact h.1.2
theorem tunlike_uniq (l : List LTarget) : tunlike l = luniq (l.map fun t => t.url) := by
  have key : ∀ i, i ≤ l.length → tunlike (l.take i) = luniq ((l.map fun t => t.url).take i) := by
    intro i
    induction i with
    | zero => intro _; simp [tunlike, luniq, lunlike]
    | succ i ih =>
      intro hi
      rw [tunlike_take l i (by omega), luniq_take _ i (by simp; omega), ih (by omega)]
      simp only [List.getElem_map, List.map_take]
  have := key l.length (Nat.le_refl _)
  rw [List.take_length, List.take_of_length_le (by simp)] at this
  exact this
end Go.KP
end

/- What the law's copies, sizes and comparisons of groups come to. MADE BY PROGRAM (gen_types.py). -/
section
set_option maxRecDepth 100000
set_option linter.unusedVariables false
set_option linter.unusedSectionVars false
set_option linter.unusedSimpArgs false
namespace Go.Proofs
open Go.PW Go.KP
attribute [local simp] RV.cells RV.one PV.cells PV.solid PV.one vals? allVal mkAgg setAt RV.ofCells elems PV.killL
variable [GF]

theorem g_szTarget (x : LTarget) (left : Int) (h0 : 0 ≤ left) (h1 : left ≤ 1048576) (hx : bdTarget 9223372036854775807 x) : CallOK Tryz.prog 156 [.val (rvTarget x), .val (num left)] (.ret (.val (num (cut left (zTarget x)))) []) [] := by
  refine call_val mixed ok156 rfl (fun _ => rfl) ?_
  unfold ir156
  rw [evalC_intro]
  unfold bdTarget at hx
  obtain b0 := hx
  unfold zTarget
  have w0 : IntKind.i64.wrap (left - ((x.url.length : Nat) : Int)) = left - ((x.url.length : Nat) : Int) := wrap_i64 (by omega) (by omega)
  by_cases k0 : left - ((x.url.length : Nat) : Int) < 0
  · rw [cut_neg (by omega)]
    simp [initSt, avPVs, avPV, avBoxesL, avBoxes, rvTarget, tx, num, bs_size, allVal, w0, k0]
  · rw [cut_pos (by omega)]
    simp [initSt, avPVs, avPV, avBoxesL, avBoxes, rvTarget, tx, num, bs_size, allVal, w0, k0]
    try omega

theorem g_toTarget (x : LTarget) (hx : bdTarget 1048576 x) : CallOK Tryz.prog 158 [.val (rvTarget x)] (.ret (.val (rvTarget x)) []) [] := by
  refine call_val mixed ok158 rfl (fun _ => rfl) ?_
  unfold ir158
  rw [evalC_intro]
  unfold bdTarget at hx
  obtain b0 := hx
  simp [initSt, avPVs, avPV, avBoxesL, avBoxes, rvTarget, tx, num, allVal]
  refine (resP_c (id := 2) (n := 3) (rs := [tx x.url, num x.prio, num x.weight]) ?_ ?_ rfl (by omega)).trans ?_
  · simp
  · simp [tx, num]
  · simp [rvTarget, tx, num, allVal]

theorem g_eqTarget (x : LTarget) (hx : bdTarget 1048576 x) : CallOK Tryz.prog 159 [.val (rvTarget x), .val (rvTarget x)] (.ret (.val (.bool true)) []) [] := by
  refine call_val mixed ok159 rfl (fun _ => rfl) ?_
  unfold ir159
  rw [evalC_intro]
  unfold bdTarget at hx
  obtain b0 := hx
  simp [initSt, avPVs, avPV, avBoxesL, avBoxes, rvTarget, tx, num, allVal]

theorem g_szTargetS (l : List LTarget) (left : Int) (h0 : 0 ≤ left) (h1 : left ≤ 1048576) (hx : bdS 9223372036854775807 (bdTarget 9223372036854775807) l) : CallOK Tryz.prog 113 [.val (.list 3 (l.map rvTarget)), .val (num left)] (.ret (.val (num (cut left (zS zTarget l)))) []) [] := by
  refine call_val mixed ok113 rfl (fun _ => rfl) ?_
  unfold ir113
  rw [evalC_intro]
  have hl : l.length ≤ 9223372036854775807 := hx.1
  have hw : IntKind.i64.wrap (left - (l.length : Int)) = left - l.length := wrap_i64 (by omega) (by omega)
  have hzs : zS zTarget l = l.length + lsum zTarget l := rfl
  by_cases h : left - (l.length : Int) < 0
  · rw [cut_neg (by omega)]
    simp [initSt, avPVs, avPV, avBoxesL, avBoxes, num, hw, h]
  · simp [initSt, avPVs, avPV, avBoxesL, avBoxes, num, hw, h]
    refine loop_EC (X := Nat) (fun i => ⟨envOf [(0, .val (.list 3 (l.map rvTarget))), (1, .val (num (left - l.length - (lsum zTarget (l.take i) : Nat)))), (5, .val (num i))], memOf []⟩) (fun i => i ≤ l.length ∧ 0 ≤ left - l.length - (lsum zTarget (l.take i) : Nat)) (fun i => l.length - i) 0 (Le.mk _ _ ?_ ?_) ?_ ?_
    · simp [upd, num, lsum, PV.kill]
    · simp
    · simp [lsum]; omega
    · rintro i ⟨hi, hg⟩
      simp [num]
      refine iteP_intro (fun h2 => ?_) (fun h2 => ?_)
      · have e1 : (l.map rvTarget)[i]?.getD .nilptr = rvTarget l[i] := by simp [List.getElem?_eq_getElem h2]
        have hsn : lsum zTarget (l.take (i + 1)) = lsum zTarget (l.take i) + zTarget l[i] := lsum_take _ h2
        have hle := lsum_le (f := zTarget) l (i + 1)
        simp [num, h2, e1, rvTarget, tx]
        refine callS_val rfl rfl (.inl rfl) (g_szTarget l[i] (left - l.length - (lsum zTarget (l.take i) : Nat)) (by omega) (by omega) (hx.2 _ (List.getElem_mem h2))) ?_
        by_cases h3 : left - (l.length : Int) - (lsum zTarget (l.take i) : Int) - (zTarget l[i] : Int) < 0
        · have c1 : cut (left - l.length - (lsum zTarget (l.take i) : Nat)) (zTarget l[i]) = -1 := cut_neg (by omega)
          have c2 : cut left (zS zTarget l) = -1 := cut_neg (by omega)
          rw [c1, c2]
          simp [num]
        · have c1 : cut (left - l.length - (lsum zTarget (l.take i) : Nat)) (zTarget l[i]) = left - l.length - (lsum zTarget (l.take i) : Nat) - (zTarget l[i] : Nat) := cut_pos (by omega)
          rw [c1]
          simp [num, h3]
          refine LoopNext.mk (i + 1) ⟨by omega, by omega⟩ (by omega) (Le.mk _ _ ?_ ?_)
          · simp [num]
            exact ⟨by omega, wrap_i64 (by omega) (by omega)⟩
          · simp
      · have e1 : i = l.length := by omega
        subst e1
        rw [List.take_length] at *
        rw [cut_pos (by omega)]
        simp [num]
        omega

theorem g_toTargetS (l : List LTarget) (hx : bdS 1048576 (bdTarget 1048576) l) : CallOK Tryz.prog 114 [.val (.list 3 (l.map rvTarget))] (.ret (.val (.list 3 (l.map rvTarget))) []) [] := by
  refine call_val mixed ok114 rfl (fun _ => rfl) ?_
  unfold ir114
  rw [evalC_intro]
  have hl : l.length ≤ 1048576 := hx.1
  simp [initSt, avPVs, avPV, avBoxesL, avBoxes, num, vals?]
  refine ⟨by omega, by omega, ?_⟩
  refine loop_EC (X := Nat) (fun i => ⟨envOf [(0, .val (.list 3 (l.map rvTarget))), (3, .own 7), (4, .val (num i))], memOf [(7, .row 65 3 (upTo rvTarget (.agg [.str (bs []), .int .i64 0, .int .i64 0]) l i))]⟩) (fun i => i ≤ l.length) (fun i => l.length - i) 0 (Le.mk _ _ ?_ ?_) ?_ ?_
  · simp [upd, num, PV.kill]
  · simp [upd, num, bs, upTo_zero]
  · simp
  · intro i hi
    have hlen := upTo_len rvTarget (.agg [.str (bs []), .int .i64 0, .int .i64 0]) l i hi
    simp [num, vals?]
    refine iteP_intro (fun h1 => ?_) (fun h1 => ?_)
    · have e1 : (l.map rvTarget)[i]?.getD .nilptr = rvTarget l[i] := by simp [List.getElem?_eq_getElem h1]
      have e2 := upTo_at rvTarget (.agg [.str (bs []), .int .i64 0, .int .i64 0]) l i h1
      have e3 := upTo_set rvTarget (.agg [.str (bs []), .int .i64 0, .int .i64 0]) l i h1
      have e4 : (upTo rvTarget (.agg [.str (bs []), .int .i64 0, .int .i64 0]) l i)[i]'(by omega) = (.agg [.str (bs []), .int .i64 0, .int .i64 0]) := by
        have h9 := e2
        rw [List.getElem?_eq_getElem (show i < (upTo rvTarget (.agg [.str (bs []), .int .i64 0, .int .i64 0]) l i).length by omega)] at h9
        exact h9
      simp [num, h1, e1, rvTarget, tx, hlen, vals?]
      refine callS_val rfl rfl (.inl rfl) (g_toTarget l[i] (hx.2 _ (List.getElem_mem h1))) ?_
      simp [num, h1, e1, e2, rvTarget, tx, hlen, vals?]
      refine LoopNext.mk (i + 1) (by omega) (by omega) (Le.mk _ _ ?_ ?_)
      · simp [num]; exact wrap_i64 (by omega) (by omega)
      · rw [← e3]
        simp [rvTarget, num, tx, e4]
    · have e1 : i = l.length := by omega
      subst e1
      simp [num, upTo_all, frzOf, PV.pl]

theorem g_eqTargetS (l : List LTarget) (hx : bdS 1048576 (bdTarget 1048576) l) : CallOK Tryz.prog 115 [.val (.list 3 (l.map rvTarget)), .val (.list 3 (l.map rvTarget))] (.ret (.val (.bool true)) []) [] := by
  refine call_val mixed ok115 rfl (fun _ => rfl) ?_
  unfold ir115
  rw [evalC_intro]
  have hl : l.length ≤ 1048576 := hx.1
  simp [initSt, avPVs, avPV, avBoxesL, avBoxes, num]
  refine loop_EC (X := Nat) (fun i => ⟨envOf [(0, .val (.list 3 (l.map rvTarget))), (1, .val (.list 3 (l.map rvTarget))), (5, .val (num i))], memOf []⟩) (fun i => i ≤ l.length) (fun i => l.length - i) 0 (Le.mk _ _ ?_ ?_) ?_ ?_
  · simp [upd, num, PV.kill]
  · simp
  · simp
  · intro i hi
    simp [num]
    refine iteP_intro (fun h1 => ?_) (fun h1 => ?_)
    · have e1 : (l.map rvTarget)[i]?.getD .nilptr = rvTarget l[i] := by simp [List.getElem?_eq_getElem h1]
      simp [num, h1, e1, rvTarget, tx]
      refine callS_val rfl rfl (.inl rfl) (g_eqTarget l[i] (hx.2 _ (List.getElem_mem h1))) ?_
      simp
      refine LoopNext.mk (i + 1) (by omega) (by omega) (Le.mk _ _ ?_ ?_)
      · simp [num]; exact wrap_i64 (by omega) (by omega)
      · simp
    · simp

theorem g_toTargetS_own (l : List LTarget) (hx : bdS 1048576 (bdTarget 1048576) l) : CallOK Tryz.prog 114 [.val (.list 3 (l.map rvTarget))] (.ret (.own 0) [⟨65, 3, l.map rvTarget⟩]) [] := by
  refine call_mk (mk := fun i => .own i) mixed ok114 rfl (fun _ => rfl) ?_
  unfold ir114
  rw [evalC_intro]
  have hl : l.length ≤ 1048576 := hx.1
  simp [initSt, avPVs, avPV, avBoxesL, avBoxes, num, vals?]
  refine ⟨by omega, by omega, ?_⟩
  refine loop_EC (X := Nat) (fun i => ⟨envOf [(0, .val (.list 3 (l.map rvTarget))), (3, .own 7), (4, .val (num i))], memOf [(7, .row 65 3 (upTo rvTarget (.agg [.str (bs []), .int .i64 0, .int .i64 0]) l i))]⟩) (fun i => i ≤ l.length) (fun i => l.length - i) 0 (Le.mk _ _ ?_ ?_) ?_ ?_
  · simp [upd, num, PV.kill]
  · simp [upd, num, bs, upTo_zero]
  · simp
  · intro i hi
    have hlen := upTo_len rvTarget (.agg [.str (bs []), .int .i64 0, .int .i64 0]) l i hi
    simp [num, vals?]
    refine iteP_intro (fun h1 => ?_) (fun h1 => ?_)
    · have e1 : (l.map rvTarget)[i]?.getD .nilptr = rvTarget l[i] := by simp [List.getElem?_eq_getElem h1]
      have e2 := upTo_at rvTarget (.agg [.str (bs []), .int .i64 0, .int .i64 0]) l i h1
      have e3 := upTo_set rvTarget (.agg [.str (bs []), .int .i64 0, .int .i64 0]) l i h1
      have e4 : (upTo rvTarget (.agg [.str (bs []), .int .i64 0, .int .i64 0]) l i)[i]'(by omega) = (.agg [.str (bs []), .int .i64 0, .int .i64 0]) := by
        have h9 := e2
        rw [List.getElem?_eq_getElem (show i < (upTo rvTarget (.agg [.str (bs []), .int .i64 0, .int .i64 0]) l i).length by omega)] at h9
        exact h9
      simp [num, h1, e1, rvTarget, tx, hlen, vals?]
      refine callS_val rfl rfl (.inl rfl) (g_toTarget l[i] (hx.2 _ (List.getElem_mem h1))) ?_
      simp [num, h1, e1, e2, rvTarget, tx, hlen, vals?]
      refine LoopNext.mk (i + 1) (by omega) (by omega) (Le.mk _ _ ?_ ?_)
      · simp [num]; exact wrap_i64 (by omega) (by omega)
      · rw [← e3]
        simp [rvTarget, num, tx, e4]
    · have e1 : i = l.length := by omega
      subst e1
      simp [num, upTo_all, frzOf, PV.pl]

theorem markp_Target {K : Kx (PExit → St → Prop)} (xs : List RV) (k i : Nat) (a0 a1 a2 : RV) (hi : i < xs.length) (hk : k < 549755813888) (hl : xs.length < 1099511627776) (hx : xs[i]?.getD .nilptr = .agg [a0, a1, a2])
    (hn : ∀ st' : St, st'.env 0 = .own 900 → st'.env 1 = .val (num ((k + 3 : Nat) : Int)) → st'.env 5 = .val (num ((i + 1 : Nat) : Int)) → st'.mem 900 = .row 65 3 (xs.set i (rvTarget (mkTarget k))) → K.k .normal st') :
    EC Tryz.prog ir116_l6 ⟨envOf [(0, .own 900), (1, .val (num k)), (5, .val (num i))], memOf [(900, .row 65 3 xs)]⟩ (K := K) := by
  unfold ir116_l6
  have s1 : IntKind.i64.wrap ((k : Int) + 1) = (k : Int) + 1 := wrap_i64 (by omega) (by omega)
  have s2 : IntKind.i64.wrap ((k : Int) + 1 + 1) = (k : Int) + 1 + 1 := wrap_i64 (by omega) (by omega)
  have s3 : IntKind.i64.wrap ((k : Int) + 1 + 1 + 1) = (k : Int) + 1 + 1 + 1 := wrap_i64 (by omega) (by omega)
  have si : IntKind.i64.wrap ((i : Int) + 1) = (i : Int) + 1 := wrap_i64 (by omega) (by omega)
  have hx' : xs[i] = .agg [a0, a1, a2] := by rw [← hx]; simp [List.getElem?_eq_getElem hi]
  have hmk := c_markText k (by omega)
  simp [num, hi]
  refine callS_val rfl rfl (.inl rfl) hmk ?_
  simp [num, hi, hx, tx]
  refine hn _ ?_ ?_ ?_ ?_
  · simp
  · simp only [evalC_skip, evalC_reg, evalC_draw, evalC_seq, evalC_cond, evalC_block, evalC_exit, evalC_ret, then_normal, then_exit, then_ret, then_pan, inBlock_normal, inBlock_ret, inBlock_pan, inBlock_exit, condS_bool, evalOps_nil, evalOps_cons, evalX_nil, evalX_cons, guardS_none, guardS_some, setD_some, setD_none, ev_t, ev_k, Option.getD_some, Option.getD_none, stepE_mov, stepE_pick, stepE_alloc, stepE_box, stepE_build, stepE_store, stepE_app, stepE_nilck, stepE_bin, stepE_eqb, stepE_eqs, stepE_un, stepE_conv, stepE_faddr, stepE_fld, stepE_load, stepE_iaddr, stepE_idx, stepE_slc, stepE_ext, stepE_lens, stepE_len, stepE_tostr, stepE_mkfn, stepE_ifc, stepE_mn, stepE_mx, stepE_mks, stepE_isnil, stepE_lit, stepE_call, stepE_callv, stepX_mov, stepX_nilck, stepX_bin, stepX_eqb, stepX_eqs, stepX_un, stepX_conv, stepX_faddr, stepX_fld, stepX_load, stepX_iaddr, stepX_idx, stepX_slc, stepX_ext, stepX_lens, stepX_len, stepX_tostr, stepX_mkfn, stepX_ifc, stepX_mn, stepX_mx, stepX_pick, stepX_build, stepX_lit, stepX_call, stepX_callv, binS_int, binS_str, binI_add, binI_sub, binI_mul, binI_quo, binI_rem, binI_eql, binI_neq, binI_lss, binI_leq, binI_gtr, binI_geq, binStr_add, binStr_eql, binStr_neq, unS_not, unS_neg, upd_app, envOf_nil, envOf_cons, memOf_nil, memOf_cons, RetP_ret, RetP_normal, resP_t, resP_tt, fin_env, frz_val, frz_emp, frz_own, pl_val, pl_emp, kill_val, kill_own, kill_ptr, kill_emp, kill_elt, kill_at, kill_undef, kill_fn, kill_skip, killM_row, killM_box, killM_dead, Kx_k, fillP_nil, fillP_cons, slc_lo, slc_hi, slc_lohi, slcl_lo, slcl_hi, Option.map_some, Option.map_none, iteP_true, iteP_false, onBool_val, onBool_skip, nilck_ptr, nilck_elt, nilck_at, nilck_fn, eqb_val, eqs_val, conv_val, faddr_ptr, faddr_elt, faddr_at, fld_val, fld_agg, load_ptr, loadBox_box, load_elt, loadRow_row, load_at, iaddr_lst, iaddr_own, iaddrRow_row, idx_val, ext_tup, lens_val, len_val, len_emp, len_own, lenRow_row, tostr_val, tostr_emp, tostr_own, tostrRow_row, ifc_val, mn_val, mx_val, lit_some, fn_fn, mks_val, isnil_nilif, isnil_ifc, isnil_emp, isnil_list, isnil_own, isnilRow_row, store_ptrK, storeBox_box, store_eltK, storeRow_row, add_some, app_own, app_emp, appRow_row, addOf_list, addOf_emp, addOf_own, rowOf_row, upd_app, s1, s2, s3, num]
    simp
    omega
  · simp [num, si]
  · simp [hi, hx, hx']
    have c1 : ((k + 1 : Nat) : Int) = (k : Int) + 1 := by omega
    have c2 : ((k + 2 : Nat) : Int) = (k : Int) + 1 + 1 := by omega
    simp [s1, s2, s3, rvTarget, mkTarget, num, tx, c1, c2]

theorem g_markTargetS (l : List LTarget) (k : Nat) (hk : k < 8388608) (hl : l.length ≤ 1048576) : CallRow Tryz.prog 116 (.own 0) 65 3 (l.map rvTarget) [.val (num k)] (num ((k + 3 * l.length : Nat) : Int)) ((mkL mkTarget 3 l.length k).map rvTarget) := by
  refine callrow_ok mixed ok116 rfl ?_
  unfold ir116
  rw [evalC_intro]
  simp [initSt, avPVs, avPV, avBoxesL, avBoxes, initRow, PV.nm, num]
  refine loop_EC (X := Nat) (fun i => ⟨envOf [(0, .own 900), (1, .val (num ((k + 3 * i : Nat) : Int))), (5, .val (num i))], memOf [(900, .row 65 3 ((mkU mkTarget 3 l k i).map rvTarget))]⟩) (fun i => i ≤ l.length) (fun i => l.length - i) 0 (Le.mk _ _ ?_ ?_) (Nat.zero_le _) ?_
  · simp [upd, num, PV.kill]
  · simp [mkU_zero]
  · intro i hi
    have hml := mkU_len mkTarget 3 l k i hi
    by_cases h1 : i < l.length
    · have hmi : i < (mkU mkTarget 3 l k i).length := by omega
      have hset := mkU_set mkTarget 3 l k i h1
      refine markp_Target ((mkU mkTarget 3 l k i).map rvTarget) (k + 3 * i) i (tx (mkU mkTarget 3 l k i)[i].url) (num (mkU mkTarget 3 l k i)[i].prio) (num (mkU mkTarget 3 l k i)[i].weight) (by simpa using hmi) (by omega) (by simp; omega) (by simp [List.getElem?_eq_getElem hmi, rvTarget]) (fun st' q0 q1 q5 qm => ?_)
      simp
      refine LoopNext.mk (i + 1) h1 (by omega) (Le.mk _ _ ?_ ?_)
      · simp [q0, q1, q5, num]
        omega
      · rw [← List.map_set, hset] at qm
        simp [qm]
    · have e : i = l.length := by omega
      subst e
      unfold ir116_l6
      simp [num, hml, mkU_all, mkL_len]

theorem g_szGroup (x : LGroup) (left : Int) (h0 : 0 ≤ left) (h1 : left ≤ 1048576) (hx : bdGroup 9223372036854775807 x) : CallOK Tryz.prog 48 [.val (rvGroup x), .val (num left)] (.ret (.val (num (cut left (zGroup x)))) []) [] := by
  refine call_val mixed ok48 rfl (fun _ => rfl) ?_
  unfold ir48
  rw [evalC_intro]
  unfold bdGroup at hx
  obtain ⟨b0, b1⟩ := hx
  unfold zGroup
  have w0 : IntKind.i64.wrap (left - ((x.name.length : Nat) : Int)) = left - ((x.name.length : Nat) : Int) := wrap_i64 (by omega) (by omega)
  by_cases k0 : left - ((x.name.length : Nat) : Int) < 0
  · rw [cut_neg (by omega)]
    simp [initSt, avPVs, avPV, avBoxesL, avBoxes, rvGroup, tx, num, bs_size, allVal, w0, k0]
  · simp [initSt, avPVs, avPV, avBoxesL, avBoxes, rvGroup, tx, num, bs_size, allVal, w0, k0]
    refine callS_val rfl rfl (.inl rfl) (g_szTargetS x.targets (left - (x.name.length : Nat)) (by omega) (by omega) b1) ?_
    by_cases k1 : (left - (x.name.length : Nat)) - ((zS zTarget x.targets : Nat) : Int) < 0
    · rw [cut_neg (by omega), cut_neg (by omega)]
      simp [rvGroup, tx, num, bs_size, allVal]
    · rw [cut_pos (by omega), cut_pos (by omega)]
      simp [rvGroup, tx, num, bs_size, allVal, k0, k1]
      try omega

theorem g_toGroup (x : LGroup) (hx : bdGroup 1048576 x) : CallOK Tryz.prog 49 [.val (rvGroup x)] (.ret (.val (rvGroup x)) []) [] := by
  refine call_val mixed ok49 rfl (fun _ => rfl) ?_
  unfold ir49
  rw [evalC_intro]
  unfold bdGroup at hx
  obtain ⟨b0, b1⟩ := hx
  simp [initSt, avPVs, avPV, avBoxesL, avBoxes, rvGroup, tx, num, allVal]
  refine callS_val rfl rfl (.inl rfl) (g_toTargetS x.targets b1) ?_
  simp [rvGroup, tx, num, allVal]
  refine (resP_c (id := 2) (n := 3) (rs := [tx x.name, num x.age, .list 3 (x.targets.map rvTarget)]) ?_ ?_ rfl (by omega)).trans ?_
  · simp
  · simp [tx, num]
  · simp [rvGroup, tx, num, allVal]

theorem g_eqGroup (x : LGroup) (hx : bdGroup 1048576 x) : CallOK Tryz.prog 50 [.val (rvGroup x), .val (rvGroup x)] (.ret (.val (.bool true)) []) [] := by
  refine call_val mixed ok50 rfl (fun _ => rfl) ?_
  unfold ir50
  rw [evalC_intro]
  unfold bdGroup at hx
  obtain ⟨b0, b1⟩ := hx
  simp [initSt, avPVs, avPV, avBoxesL, avBoxes, rvGroup, tx, num, allVal]
  refine callS_val rfl rfl (.inl rfl) (g_eqTargetS x.targets b1) ?_
  simp [rvGroup, tx, num, allVal]

end Go.Proofs
end

/- A copy of a group with its row, and its marks. -/
section
set_option maxRecDepth 100000
set_option linter.unusedVariables false
set_option linter.unusedSectionVars false
set_option linter.unusedSimpArgs false
namespace Go.Proofs
open Go.PW Go.KP
attribute [local simp] RV.cells RV.one PV.cells PV.solid PV.one vals? allVal mkAgg setAt RV.ofCells elems PV.killL
variable [GF]

def gPV (g : LGroup) (i : Nat) : PV := .agg [.val (tx g.name), .val (num g.age), .own i]

theorem g_toGroup_own (g : LGroup) (hx : bdGroup 1048576 g) : CallOK Tryz.prog 49 [.val (rvGroup g)] (.ret (gPV g 0) [⟨65, 3, g.targets.map rvTarget⟩]) [] := by
  refine call_mk (mk := fun i => gPV g i) mixed ok49 rfl (fun _ => rfl) ?_
  unfold ir49
  rw [evalC_intro]
  simp [initSt, avPVs, avPV, avBoxesL, avBoxes, rvGroup, tx, num]
  refine callS_mk rfl rfl rfl (.inl rfl) (g_toTargetS_own g.targets hx.2) ?_
  simp [num, rowBase, PV.shift, PV.shiftL, PV.kill, PV.killL, MObj.kill]
  simp [resP, resV, mkAgg, gPV, tx, num]

theorem g_markGroup (g : LGroup) (k : Nat) (hk : k < 8388608) (hx : bdGroup 1048576 g) : CallRow Tryz.prog 51 (gPV g 0) 65 3 (g.targets.map rvTarget) [.val (num k)] (num ((k + 3 * g.targets.length : Nat) : Int)) ((mkL mkTarget 3 g.targets.length k).map rvTarget) := by
  refine callrow_ok mixed ok51 rfl ?_
  unfold ir51
  rw [evalC_intro]
  have hm := g_markTargetS g.targets k hk hx.2.1
  simp [initSt, avPVs, avPV, avBoxesL, avBoxes, initRow, gPV, PV.nm, PV.nmL, num, tx]
  refine rowC rfl rfl rfl rfl hm rfl ?_
  simp [num]
end Go.Proofs
end

/- What the spec's look at groups, and its peers of a group, come to. -/
section
set_option maxRecDepth 100000
set_option linter.unusedVariables false
set_option linter.unusedSectionVars false
set_option linter.unusedSimpArgs false
namespace Go.Proofs
open Go.PW Go.KP
attribute [local simp] RV.cells RV.one PV.cells PV.solid PV.one vals? allVal mkAgg setAt RV.ofCells elems PV.killL
variable [GF]

theorem c_l03At (l : List LTarget) (name : Tx) (hl : l.length < 1099511627776) : CallOK Tryz.prog 179 [.val (.list 3 (l.map rvTarget)), .val (tx name)] (.ret (.val (num (lidx l fun r => decide (r.url = name)))) []) [] := by
  refine call_val mixed ok179 rfl (fun _ => rfl) ?_
  unfold ir179
  rw [evalC_intro]
  simp [initSt, avPVs, avPV, avBoxesL, avBoxes, num]
  refine loop_EC (X := Nat) (fun i => ⟨envOf [(0, .val (.list 3 (l.map rvTarget))), (1, .val (tx name)), (5, .val (num i))], memOf []⟩) (fun i => i ≤ l.length ∧ ∀ k (hk : k < i) (hk' : k < l.length), l[k].url ≠ name) (fun i => l.length - i) 0 (Le.mk _ _ ?_ ?_) ?_ ?_
  · simp [upd, num]
  · simp
  · simp
  · rintro i ⟨hi, hne⟩
    simp [num]
    refine iteP_intro (fun h1 => ?_) (fun h1 => ?_)
    · have e1 : (l.map rvTarget)[i]?.getD .nilptr = rvTarget l[i] := by simp [List.getElem?_eq_getElem h1]
      simp [num, h1, e1, rvTarget, tx, bs_inj]
      by_cases hu : l[i].url = name
      · have hh : lidx l (fun r => decide (r.url = name)) = i := lidx_hit h1 (by simp [hu]) (fun k hk => by simp [hne k hk (by omega)])
        simp [hu, hh, num]
      · simp [hu]
        refine LoopNext.mk (i + 1) ⟨by omega, fun k hk hk' => ?_⟩ (by omega) (Le.mk _ _ ?_ ?_)
        · by_cases e : k = i
          · subst e; exact hu
          · exact hne k (by omega) hk'
        · simp [num, tx]; exact wrap_i64 (by omega) (by omega)
        · simp
    · have e : i = l.length := by omega
      have hh : lidx l (fun r => decide (r.url = name)) = -1 := lidx_none (fun k hk => by simp [hne k (by omega) hk])
      simp [hh, num]

theorem lgroupOK_bad (g : LGroup) (i : Nat) (hi : i < g.targets.length) (h : (ltargetOK g.targets[i] && decide ((g.targets[i]).url ∉ (g.targets.map fun r => r.url).take i)) = false) : (g.targets.all ltargetOK && luniq (g.targets.map fun t => t.url)) = false := by
  rw [Bool.and_eq_false_iff] at h ⊢
  rcases h with h | h
  · exact .inl (List.all_eq_false.2 ⟨_, List.getElem_mem hi, by simp [h]⟩)
  · refine .inr (luniq_false _ (i + 1) ?_)
    rw [luniq_take _ i (by simpa using hi)]
    simp only [List.getElem_map]
    rw [h, Bool.and_false]

theorem l03OK_core (g : LGroup) (b1 b2 b3 : Bool) (hb : bdGroup 1048576 g) (hW : CallOK Tryz.prog 185 [.val (tx g.name)] (.ret (.val (.bool b1)) []) []) (hA : CallOK Tryz.prog 86 [.val (.int .i64 g.age), .val (.int .i64 1), .val (.int .i64 100)] (.ret (.val (.bool b2)) []) [])
    (hT : CallOK Tryz.prog 86 [.val (.int .i64 g.targets.length), .val (.int .i64 1), .val (.int .i64 4)] (.ret (.val (.bool b3)) []) []) :
    CallOK Tryz.prog 110 [.val (rvGroup g)] (.ret (.val (.bool (b1 && b2 && b3 && (g.targets.all ltargetOK && luniq (g.targets.map fun t => t.url))))) []) [] := by
  have htl : g.targets.length ≤ 1048576 := hb.2.1
  refine call_val mixed ok110 rfl (fun _ => rfl) ?_
  unfold ir110
  rw [evalC_intro]
  simp [initSt, avPVs, avPV, avBoxesL, avBoxes, rvGroup, tx, num]
  refine callS_val rfl rfl (.inl rfl) hW ?_
  cases b1 with
  | false => simp
  | true =>
    simp [num]
    refine callS_val rfl rfl (.inl rfl) hA ?_
    cases b2 with
    | false => simp
    | true =>
      simp [num]
      refine callS_val rfl rfl (.inl rfl) hT ?_
      cases b3 with
      | false => simp
      | true =>
        simp [num]
        refine loop_EC (X := Nat) (fun i => ⟨envOf [(1, .ptr 1 0), (3, .val (num i))], memOf [(1, .box [.val (tx g.name), .val (num g.age), .val (.list 3 (g.targets.map rvTarget))])]⟩) (fun i => i ≤ g.targets.length ∧ ((g.targets.take i).all ltargetOK && luniq ((g.targets.map fun r => r.url).take i)) = true) (fun i => g.targets.length - i) 0 (Le.mk _ _ ?_ ?_) ?_ ?_
        · simp [upd, num]
        · simp [tx, num]
        · simp [luniq]
        · rintro i ⟨hi, hall⟩
          simp [num]
          refine iteP_intro (fun h1 => ?_) (fun h1 => ?_)
          · have hbr : (g.targets[i]).url.length ≤ 1048576 := hb.2.2 _ (List.getElem_mem h1)
            have hst : (g.targets.take (i + 1)).all ltargetOK = ((g.targets.take i).all ltargetOK && ltargetOK g.targets[i]) := all_take_succ _ _ _ h1
            have hst2 := luniq_take (g.targets.map fun r => r.url) i (by simpa using h1)
            simp only [List.getElem_map] at hst2
            have hbad := lgroupOK_bad g i h1
            have hself := lidx_self (fun r : LTarget => r.url) g.targets i h1
            rw [Bool.and_eq_true] at hall
            rw [hall.1, Bool.true_and] at hst
            rw [hall.2, Bool.true_and] at hst2
            obtain ⟨r, hrk⟩ : ∃ r, g.targets[i] = r := ⟨_, rfl⟩
            rw [hrk] at hbr hst hst2 hbad
            simp only [hrk] at hself
            have hT3 := c_l03Target r (by omega)
            have hAt := c_l03At g.targets r.url (by omega)
            simp [num, h1, hrk, rvTarget, tx]
            refine callX_val rfl rfl (.inl rfl) hT3 ?_
            cases hn : ltargetOK r with
            | false =>
              have hb2 := hbad (by rw [hn]; rfl)
              simp [hb2]
            | true =>
              simp [num, h1, hrk, rvTarget, tx]
              refine callX_val rfl rfl (.inl rfl) hAt ?_
              by_cases hu : r.url ∈ (g.targets.map fun r => r.url).take i
              · have hb2 := hbad (by rw [decide_eq_false (fun h => h hu), Bool.and_false])
                have hne : ¬ (lidx g.targets fun x => decide (x.url = r.url)) = (i : Int) := fun h => hself.1 h hu
                simp [num, hb2, hne]
              · have heq := hself.2 hu
                rw [decide_eq_true hu] at hst2
                simp [num, heq]
                refine LoopNext.mk (i + 1) ⟨by omega, by rw [hst, hst2, hn]; rfl⟩ (by omega) (Le.mk _ _ ?_ ?_)
                · simp [num]; exact wrap_i64 (by omega) (by omega)
                · simp [tx, num]
          · have e : i = g.targets.length := by omega
            subst e
            rw [List.take_length, List.take_of_length_le (by simp)] at hall
            simp [hall]

theorem c_l03OK (g : LGroup) (hb : bdGroup 1048576 g) : CallOK Tryz.prog 110 [.val (rvGroup g)] (.ret (.val (.bool (lgroupOK g))) []) [] := by
  have hnl : g.name.length ≤ 1048576 := hb.1
  have h := l03OK_core g _ _ _ hb (c_l00Word g.name (by omega)) (c_l01In .i64 g.age 1 100) (c_l01In .i64 g.targets.length 1 4)
  have q3 : (1 ≤ g.targets.length ∧ g.targets.length ≤ 4) ↔ ((1 : Int) ≤ g.targets.length ∧ (g.targets.length : Int) ≤ 4) := by omega
  unfold lgroupOK
  rw [decide_eq_decide.2 q3]
  exact h

theorem c_l07Of (g : LGroup) (hb : bdGroup 1048576 g) : CallOK Tryz.prog 112 [.val (rvGroup g)] (.ret (.own 0) [⟨67, 6, (lkeep [] g.targets).map rvPeer⟩]) [] := by
  refine call_mk (mk := fun i => .own i) mixed ok112 rfl (fun _ => rfl) ?_
  unfold ir112
  rw [evalC_intro]
  have htl : g.targets.length ≤ 1048576 := hb.2.1
  simp [initSt, avPVs, avPV, avBoxesL, avBoxes, rvGroup, tx, num]
  refine loop_EC (X := Nat) (fun i => ⟨envOf [(1, .ptr 1 0), (3, .own 5), (4, .val (num i))], memOf [(1, .box [.val (tx g.name), .val (num g.age), .val (.list 3 (g.targets.map rvTarget))]), (5, .row 67 6 ((lkeep [] (g.targets.take i)).map rvPeer))]⟩) (fun i => i ≤ g.targets.length) (fun i => g.targets.length - i) 0 (Le.mk _ _ ?_ ?_) ?_ ?_
  · simp [upd, num, PV.kill]
  · simp [upd, tx, num, lkeep, MObj.kill, PV.kill]
  · simp
  · intro i hi
    simp [num]
    refine iteP_intro (fun h1 => ?_) (fun h1 => ?_)
    · have e1 : (g.targets.map rvTarget)[i]?.getD .nilptr = rvTarget g.targets[i] := by simp [List.getElem?_eq_getElem h1]
      have e2 := lkeep_take [] g.targets i h1
      have hlen : (lkeep [] (g.targets.take i)).length = i := by simp [lkeep]; omega
      simp [num, h1, e1, rvTarget, tx, vals?, hlen]
      refine ⟨by omega, by omega, ?_⟩
      refine LoopNext.mk (i + 1) (by omega) (by omega) (Le.mk _ _ ?_ ?_)
      · simp [num, PV.kill]; exact wrap_i64 (by omega) (by omega)
      · simp [tx, num, MObj.kill, PV.kill, e2, rvPeer, lkeep1, lknown]
    · have e : i = g.targets.length := by omega
      subst e
      simp [num, List.take_length]
theorem c_specPO (g : LGroup) (hb : bdGroup 1048576 g) : CallOK Tryz.prog 46 [.val (rvGroup g)] (.ret (.tup [.val (rvPeers (if lgroupOK g then lkeep [] g.targets else [])), .val (num (lkeepC [] g))]) []) [] := by
  have hO := c_l03OK g hb
  have h0 : lkeepC [] g = if lgroupOK g then 0 else 1 := by
    have : lpeersOK [] = true := rfl
    unfold lkeepC
    rw [if_neg (by simp), if_pos this]
  rw [h0]
  cases hg : lgroupOK g with
  | false =>
    rw [hg] at hO
    refine call_val mixed ok46 rfl (fun _ => rfl) ?_
    unfold ir46
    rw [evalC_intro]
    simp [initSt, avPVs, avPV, avBoxesL, avBoxes, rvGroup, tx, num]
    refine callS_val rfl rfl (.inl rfl) hO ?_
    simp [num, rvPeers, frzOf, PV.pl]
  | true =>
    rw [hg] at hO
    refine call_val mixed ok46 rfl (fun _ => rfl) ?_
    unfold ir46
    rw [evalC_intro]
    simp [initSt, avPVs, avPV, avBoxesL, avBoxes, rvGroup, tx, num]
    refine callS_val rfl rfl (.inl rfl) hO ?_
    simp [num, rvPeers]
    refine callS_mk rfl rfl rfl (.inl rfl) (c_l07Of g hb) ?_
    simp [num, rvPeers, rowBase, PV.shift, PV.shiftL, PV.kill, MObj.kill, frzOf, PV.pl]

structure KS (st : St) (old : List LPeer) (xs : List RV) (i : Nat) : Prop where
  e0 : st.env 0 = .val (.list 6 (old.map rvPeer))
  e5 : st.env 5 = .own 10000
  e6 : st.env 6 = .val (num i)
  m5 : st.mem 10000 = .row 67 6 xs

theorem keep_l16 {K : Kx (PExit → St → Prop)} (old : List LPeer) (hl : old.length < 1099511627776) (xs : List RV) (i k : Nat) (y : LPeer) (st : St) (hs : KS st old xs i) (h7 : st.env 7 = .val (num k)) (hi : i < xs.length) (hx : xs[i] = rvPeer y)
    (hE : k = old.length → ∀ st', KS st' old xs i → K.k (.exit 2) st')
    (hN : ∀ h : k < old.length, ∀ st', KS st' old (xs.set i (rvPeer (if (old[k]).target.url = y.target.url ∧ (old[k]).gone = false then { y with fails := (old[k]).fails, retry := (old[k]).retry } else y))) i → st'.env 7 = .val (num ((k + 1 : Nat) : Int)) → K.k .normal st') (hk : k ≤ old.length) :
    EC Tryz.prog ir111_l16 st (K := K) := by
  unfold ir111_l16
  have w1 : IntKind.i64.wrap ((k : Int) + 1) = (k : Int) + 1 := wrap_i64 (by omega) (by omega)
  simp [num, hs.e0, h7]
  refine iteP_intro (fun h1 => ?_) (fun h1 => ?_)
  · have hxx : xs[i]?.getD .nilptr = rvPeer y := by simp [List.getElem?_eq_getElem hi, hx]
    have hN := hN h1
    obtain ⟨p, hp⟩ : ∃ p, old[k] = p := ⟨_, rfl⟩
    rw [hp] at hN
    have hself : xs.set i (rvPeer y) = xs := by rw [← hx]; exact List.set_getElem_self hi
    by_cases hu : p.target.url = y.target.url
    · cases hgn : p.gone with
      | true =>
        rw [if_neg (by simp [hgn])] at hN
        simp [num, hs.e0, hs.e5, hs.e6, hs.m5, h7, h1, hp, hi, hx, rvPeer, tx, bs_inj, hu, hgn]
        refine hN _ ⟨?_, ?_, ?_, ?_⟩ ?_
        · simp [hs.e0]
        · simp [hs.e5]
        · simp [hs.e6]
        · simp [hs.m5, hself]
        · simp [num, w1]
      | false =>
        rw [if_pos ⟨hu, hgn⟩] at hN
        simp [num, hs.e0, hs.e5, hs.e6, hs.m5, h7, h1, hp, hi, hx, rvPeer, tx, bs_inj, hu, hgn]
        refine hN _ ⟨?_, ?_, ?_, ?_⟩ ?_
        · simp [hs.e0]
        · simp [hs.e5]
        · simp [hs.e6]
        · simp [hs.m5, hx, rvPeer, tx, num]
        · simp [num, w1]
    · rw [if_neg (fun h => hu h.1)] at hN
      simp [num, hs.e0, hs.e5, hs.e6, hs.m5, h7, h1, hp, hi, hx, rvPeer, tx, bs_inj, hu]
      refine hN _ ⟨?_, ?_, ?_, ?_⟩ ?_
      · simp [hs.e0]
      · simp [hs.e5]
      · simp [hs.e6]
      · simp [hs.m5, hself]
      · simp [num, w1]
  · have e : k = old.length := by omega
    simp
    refine hE e _ ⟨?_, ?_, ?_, ?_⟩
    · simp [hs.e0]
    · simp [hs.e5]
    · simp [hs.e6]
    · simp [hs.m5]

theorem c_l07Keep (old : List LPeer) (g : LGroup) (hl : old.length ≤ 4096) (hb : bdGroup 1048576 g) : CallOK Tryz.prog 111 [.val (rvPeers old), .val (rvGroup g)] (.ret (.val (rvPeers (lkeep old g.targets))) []) [] := by
  refine call_val mixed ok111 rfl (fun _ => rfl) ?_
  unfold ir111
  rw [evalC_intro]
  have htl : g.targets.length ≤ 1048576 := hb.2.1
  simp [initSt, avPVs, avPV, avBoxesL, avBoxes, rvGroup, tx, num, rvPeers]
  refine callS_mk rfl rfl rfl (.inl rfl) (c_l07Of g hb) ?_
  simp [num, rvPeers, rowBase, PV.shift, PV.shiftL, PV.kill, MObj.kill]
  refine loop_EC (X := Nat) (fun i => ⟨envOf [(0, .val (.list 6 (old.map rvPeer))), (5, .own 10000), (6, .val (num i))], memOf [(10000, .row 67 6 ((lrow old g.targets i 0).map rvPeer))]⟩) (fun i => i ≤ g.targets.length) (fun i => g.targets.length - i) 0 (Le.mk _ _ ?_ ?_) ?_ ?_
  · simp [upd, num, PV.kill]
  · simp [upd, lrow_start]
  · simp
  · intro i hi
    have hlen := lrow_len old g.targets i 0 hi
    simp [num, hlen]
    refine iteP_intro (fun h1 => ?_) (fun h1 => ?_)
    · simp [num]
      refine loop_EC (X := Nat) (fun k => ⟨envOf [(0, .val (.list 6 (old.map rvPeer))), (5, .own 10000), (6, .val (num i)), (7, .val (num k))], memOf [(10000, .row 67 6 ((lrow old g.targets i k).map rvPeer))]⟩) (fun k => k ≤ old.length) (fun k => old.length - k) 0 (Le.mk _ _ ?_ ?_) ?_ ?_
      · simp [num]
      · simp
      · simp
      · intro k hk
        have hlk := lrow_len old g.targets i k hi
        refine keep_l16 old (by omega) ((lrow old g.targets i k).map rvPeer) i k (lkeep1 (old.take k) g.targets[i]) _ ⟨?_, ?_, ?_, ?_⟩ ?_ (by simpa [hlk] using h1) ?_ (fun he st' hs => ?_) (fun hlt st' hs h7 => ?_) hk
        · simp
        · simp
        · simp
        · simp
        · simp
        · simp [lrow_at old g.targets i k h1]
        · subst he
          rw [lrow_next old g.targets i h1] at hs
          simp [hs.e6, num]
          refine LoopNext.mk (i + 1) h1 (by omega) (Le.mk _ _ ?_ ?_)
          · simp [hs.e0, hs.e5, hs.e6, num]; exact wrap_i64 (by omega) (by omega)
          · simp [hs.m5]
        · rw [← List.map_set, lrow_set old g.targets i k h1 _ (by rw [lkeep1_take _ _ _ hlt]; rfl)] at hs
          simp
          refine LoopNext.mk (k + 1) hlt (by omega) (Le.mk _ _ ?_ ?_)
          · simp [hs.e0, hs.e5, hs.e6, h7]
          · simp [hs.m5]
    · have e : i = g.targets.length := by omega
      subst e
      simp [num, lrow_all, frzOf, PV.pl, rvPeers]

theorem c_specKP (old : List LPeer) (g : LGroup) (hl : old.length ≤ 1048576) (hs : ∀ p ∈ old, p.target.url.length ≤ 1048576) (hb : bdGroup 1048576 g) : CallOK Tryz.prog 44 [.val (rvPeers old), .val (rvGroup g)] (.ret (.tup [.val (rvPeers (if lkeepC old g = 0 then lkeep old g.targets else [])), .val (num (lkeepC old g))]) []) [] := by
  have hO := c_l03OK g hb
  have hP := c_l07OK old (by omega) (fun p hp => by have := hs p hp; omega)
  have hK := c_l07Keep old g
  unfold lkeepC
  by_cases h : 4096 < old.length
  · rw [if_pos h]
    have h' : (4096 : Int) < old.length := by omega
    refine call_val mixed ok44 rfl (fun _ => rfl) ?_
    unfold ir44
    rw [evalC_intro]
    simp [initSt, avPVs, avPV, avBoxesL, avBoxes, rvGroup, tx, num, rvPeers, h', frzOf, PV.pl]
  · rw [if_neg h]
    have h' : ¬ (4096 : Int) < old.length := by omega
    have hK := hK (by omega) hb
    cases hp : lpeersOK old with
    | false =>
      rw [hp] at hP
      refine call_val mixed ok44 rfl (fun _ => rfl) ?_
      unfold ir44
      rw [evalC_intro]
      simp [initSt, avPVs, avPV, avBoxesL, avBoxes, rvGroup, tx, num, rvPeers, h']
      refine callS_val rfl rfl (.inl rfl) hP ?_
      simp [num, rvPeers, frzOf, PV.pl]
    | true =>
      rw [hp] at hP
      cases hg : lgroupOK g with
      | false =>
        rw [hg] at hO
        refine call_val mixed ok44 rfl (fun _ => rfl) ?_
        unfold ir44
        rw [evalC_intro]
        simp [initSt, avPVs, avPV, avBoxesL, avBoxes, rvGroup, tx, num, rvPeers, h']
        refine callS_val rfl rfl (.inl rfl) hP ?_
        simp [num, rvPeers]
        refine callS_val rfl rfl (.inl rfl) hO ?_
        simp [num, rvPeers, frzOf, PV.pl]
      | true =>
        rw [hg] at hO
        refine call_val mixed ok44 rfl (fun _ => rfl) ?_
        unfold ir44
        rw [evalC_intro]
        simp [initSt, avPVs, avPV, avBoxesL, avBoxes, rvGroup, tx, num, rvPeers, h']
        refine callS_val rfl rfl (.inl rfl) hP ?_
        simp [num, rvPeers]
        refine callS_val rfl rfl (.inl rfl) hO ?_
        simp [num, rvPeers]
        refine callS_val rfl rfl (.inl rfl) hK ?_
        simp [num, rvPeers, frzOf, PV.pl]
end Go.Proofs
end

/- What slices.* come to at some element types. MADE BY PROGRAM (gen_slices.py). -/
section
set_option maxRecDepth 100000
set_option linter.unusedVariables false
set_option linter.unusedSectionVars false
set_option linter.unusedSimpArgs false
namespace Go.Proofs
open Go.PW Go.KP
attribute [local simp] RV.cells RV.one PV.cells PV.solid PV.one vals? allVal mkAgg setAt RV.ofCells elems PV.killL
variable [GF]

theorem i_IndexFunc_Target (l : List LTarget) (g : Nat) (p : LTarget → Bool) (hl : l.length < 1099511627776) (hg : fnB Tryz.prog g = true)
    (hp : ∀ x ∈ l, CallOK Tryz.prog g [.val (rvTarget x)] (.ret (.val (.bool (p x))) []) []) :
    CallOK Tryz.prog 226 [.val (.list 3 (l.map rvTarget)), .fn g []] (.ret (.val (num (lidx l p))) []) [] := by
  refine call_val mixed ok226 rfl (fun _ => rfl) ?_
  unfold ir226
  rw [evalC_intro]
  simp [initSt, avPVs, avPV, avBoxesL, avBoxes, avPV, avPVs]
  refine loop_EC (X := Nat) (fun i => ⟨envOf [(0, .val (.list 3 (l.map rvTarget))), (1, .fn g []), (7, .val (num l.length)), (8, .val (num i))], memOf []⟩) (fun i => i ≤ l.length ∧ ∀ k (hk : k < i) (hk' : k < l.length), p l[k] = false) (fun i => l.length - i) 0 (Le.mk _ _ ?_ ?_) ?_ ?_
  · simp [upd, num]
  · simp
  · simp
  · rintro i ⟨hi, hne⟩
    simp [num]
    refine iteP_intro (fun h1 => ?_) (fun h1 => ?_)
    · have e1 : (l.map rvTarget)[i]?.getD .nilptr = rvTarget l[i] := by simp [List.getElem?_eq_getElem h1]
      simp [num, h1, e1, rvTarget, tx, num, hg]
      refine callS_val rfl rfl (.inl rfl) (hp l[i] (List.getElem_mem h1)) ?_
      cases hpi : p l[i] with
      | true =>
        simp
        rw [lidx_hit h1 hpi (fun k hk => hne k hk (by omega))]; rfl
      | false =>
        simp
        refine LoopNext.mk (i + 1) ⟨by omega, fun k hk hk' => ?_⟩ (by omega) (Le.mk _ _ ?_ ?_)
        · by_cases e : k = i
          · subst e; exact hpi
          · exact hne k (by omega) hk'
        · simp [num]; exact wrap_i64 (by omega) (by omega)
        · simp
    · have e : i = l.length := by omega
      subst e
      simp [num]
      rw [lidx_none (fun k hk => hne k hk hk)]

theorem i_ContainsFunc_Target (l : List LTarget) (g : Nat) (p : LTarget → Bool) (hl : l.length < 1099511627776) (hg : fnB Tryz.prog g = true)
    (hp : ∀ x ∈ l, CallOK Tryz.prog g [.val (rvTarget x)] (.ret (.val (.bool (p x))) []) []) :
    CallOK Tryz.prog 182 [.val (.list 3 (l.map rvTarget)), .fn g []] (.ret (.val (.bool (l.any p))) []) [] := by
  refine call_val mixed ok182 rfl (fun _ => rfl) ?_
  unfold ir182
  rw [evalC_intro]
  simp [initSt, avPVs, avPV, avBoxesL, avBoxes, avPV, avPVs]
  refine callS_val rfl rfl (.inl rfl) (i_IndexFunc_Target l g p hl hg hp) ?_
  simp [num]
  exact lidx_ge l p

end Go.Proofs
end

/- What the program's look at groups, and its peers of a group, come to. -/
section
set_option maxRecDepth 100000
set_option linter.unusedVariables false
set_option linter.unusedSectionVars false
set_option linter.unusedSimpArgs false
namespace Go.Proofs
open Go.PW Go.KP
attribute [local simp] RV.cells RV.one PV.cells PV.solid PV.one vals? allVal mkAgg setAt RV.ofCells elems PV.killL
variable [GH]

theorem i_GroupOK1 (t : LTarget) (ht : t.url.length < 1048577) : CallOK Tryz.prog 183 [.val (rvTarget t)] (.ret (.val (.bool (!ltargetOK t))) []) [] := by
  refine call_val mixed ok183 rfl (fun _ => rfl) ?_
  unfold ir183
  rw [evalC_intro]
  have h := i_targetOK t ht
  simp [initSt, avPVs, avPV, avBoxesL, avBoxes, rvTarget, tx, num]
  refine callS_val rfl rfl (.inl rfl) h ?_
  simp

theorem groupOK_core (g : LGroup) (b1 b2 b3 b4 b5 : Bool) (hW : CallOK Tryz.prog 171 [.val (tx g.name)] (.ret (.val (.bool b1)) []) []) (hA : CallOK Tryz.prog 126 [.val (num g.age), .val (num 1), .val (num 100)] (.ret (.val (.bool b2)) []) [])
    (hT : CallOK Tryz.prog 126 [.val (num g.targets.length), .val (num 1), .val (num 4)] (.ret (.val (.bool b3)) []) []) (hU : CallOK Tryz.prog 121 [.val (.list 3 (g.targets.map rvTarget))] (.ret (.val (.bool b4)) []) [])
    (hC : CallOK Tryz.prog 182 [.val (.list 3 (g.targets.map rvTarget)), .fn 183 []] (.ret (.val (.bool b5)) []) []) :
    CallOK Tryz.prog 107 [.val (rvGroup g)] (.ret (.val (.bool (b1 && b2 && b3 && b4 && !b5))) []) [] := by
  refine call_val mixed ok107 rfl (fun _ => rfl) ?_
  unfold ir107
  rw [evalC_intro]
  simp [initSt, avPVs, avPV, avBoxesL, avBoxes, rvGroup, tx, num]
  refine callS_val rfl rfl (.inl rfl) hW ?_
  cases b1 with
  | false => simp
  | true =>
    simp [num]
    refine callS_val rfl rfl (.inl rfl) hA ?_
    cases b2 with
    | false => simp
    | true =>
      simp [num]
      refine callS_val rfl rfl (.inl rfl) hT ?_
      cases b3 with
      | false => simp
      | true =>
        simp [num]
        refine callS_val rfl rfl (.inl rfl) hU ?_
        cases b4 with
        | false => simp
        | true =>
          simp [num]
          refine callS_val rfl rfl (.inl rfl) hC ?_
          cases b5 <;> simp

theorem i_GroupOK (g : LGroup) (hb : bdGroup 1048576 g) : CallOK Tryz.prog 107 [.val (rvGroup g)] (.ret (.val (.bool (lgroupOK g))) []) [] := by
  have hnl : g.name.length ≤ 1048576 := hb.1
  have htl : g.targets.length ≤ 1048576 := hb.2.1
  have hC := i_ContainsFunc_Target g.targets 183 (fun t => !ltargetOK t) (by omega) (by kernel_rfl) (fun x hx => i_GroupOK1 x (by have := hb.2.2 x hx; unfold bdTarget at this; omega))
  have h := groupOK_core g _ _ _ _ _ (i_NameOK g.name (by omega)) (i_within g.age 1 100) (i_within g.targets.length 1 4) (i_areUnlike g.targets (by omega)) hC
  have q3 : (1 ≤ g.targets.length ∧ g.targets.length ≤ 4) ↔ ((1 : Int) ≤ g.targets.length ∧ (g.targets.length : Int) ≤ 4) := by omega
  have e : lgroupOK g = (lword g.name && decide (1 ≤ g.age ∧ g.age ≤ 100) && decide ((1 : Int) ≤ g.targets.length ∧ (g.targets.length : Int) ≤ 4) && tunlike g.targets && !(g.targets.any fun t => !ltargetOK t)) := by
    unfold lgroupOK
    rw [decide_eq_decide.2 q3, tunlike_uniq, List.not_any_eq_all_not]
    simp only [Bool.not_not]
    cases lword g.name <;> cases decide (1 ≤ g.age ∧ g.age ≤ 100) <;> cases decide ((1 : Int) ≤ g.targets.length ∧ (g.targets.length : Int) ≤ 4) <;> cases g.targets.all ltargetOK <;> simp
  rw [e]
  exact h

theorem keep_s38 {K : Kx (PExit → St → Prop)} (p y : LPeer) (st : St) (h10 : st.env 10 = .ptr 10 0) (h8 : st.env 8 = .ptr 8 0)
    (m10 : st.mem 10 = .box [.val (tx p.target.url), .val (num p.target.prio), .val (num p.target.weight), .val (num p.fails), .val (num p.retry), .val (.bool p.gone)])
    (m8 : st.mem 8 = .box [.val (tx y.target.url), .val (num y.target.prio), .val (num y.target.weight), .val (num y.fails), .val (num y.retry), .val (.bool y.gone)])
    (hN : ∀ st', (∀ x, x < 38 → st'.env x = st.env x) → (∀ i, i ≠ 8 → st'.mem i = st.mem i) → st'.mem 8 = .box [.val (tx y.target.url), .val (num y.target.prio), .val (num y.target.weight), .val (num p.fails), .val (num p.retry), .val (.bool y.gone)] → K.k .normal st') :
    EC Tryz.prog ir108_s38 st (K := K) := by
  unfold ir108_s38
  simp [num, h10, h8, m10, m8, tx]
  repeat' apply And.intro
  all_goals
    refine hN _ (fun x hx => ?_) (fun i hi => ?_) ?_
    · have : x ≠ 38 ∧ x ≠ 39 ∧ x ≠ 40 ∧ x ≠ 41 ∧ x ≠ 42 ∧ x ≠ 43 := by omega
      simp [this]
    · simp [hi]
    · simp [tx, num]

structure KP2 (st : St) (old : List LPeer) (g : LGroup) (i k : Nat) (xs : List RV) (t : LTarget) (y : LPeer) : Prop where
  e5 : st.env 5 = .own 11
  e7 : st.env 7 = .ptr 7 0
  e8 : st.env 8 = .ptr 8 0
  e13 : st.env 13 = .val (.list 3 (g.targets.map rvTarget))
  e14 : st.env 14 = .val (num g.targets.length)
  e15 : st.env 15 = .val (num i)
  e0 : st.env 0 = .val (.list 6 (old.map rvPeer))
  e21 : st.env 21 = .val (.list 6 (old.map rvPeer))
  e22 : st.env 22 = .val (num old.length)
  e23 : st.env 23 = .val (num k)
  m11 : st.mem 11 = .row 67 6 xs
  m7 : st.mem 7 = .box [.val (tx t.url), .val (num t.prio), .val (num t.weight)]
  m8 : st.mem 8 = .box [.val (tx y.target.url), .val (num y.target.prio), .val (num y.target.weight), .val (num y.fails), .val (num y.retry), .val (.bool y.gone)]

def kp2 (old : List LPeer) (g : LGroup) (i k : Nat) (xs : List RV) (t : LTarget) (y : LPeer) : St :=
  ⟨envOf [(0, .val (.list 6 (old.map rvPeer))), (5, .own 11), (7, .ptr 7 0), (8, .ptr 8 0), (13, .val (.list 3 (g.targets.map rvTarget))), (14, .val (num g.targets.length)), (15, .val (num i)), (21, .val (.list 6 (old.map rvPeer))), (22, .val (num old.length)), (23, .val (num k))],
   memOf [(11, .row 67 6 xs), (7, .box [.val (tx t.url), .val (num t.prio), .val (num t.weight)]), (8, .box [.val (tx y.target.url), .val (num y.target.prio), .val (num y.target.weight), .val (num y.fails), .val (num y.retry), .val (.bool y.gone)])]⟩

theorem i_keepPeers (old : List LPeer) (g : LGroup) (hl : old.length ≤ 4096) (hb : bdGroup 1048576 g) : CallOK Tryz.prog 108 [.val (rvPeers old), .val (rvGroup g)] (.ret (.own 0) [⟨67, 6, (lkeep old g.targets).map rvPeer⟩]) [] := by
  refine call_mk (mk := fun i => .own i) mixed ok108 rfl (fun _ => rfl) ?_
  unfold ir108
  rw [evalC_intro]
  have htl : g.targets.length ≤ 1048576 := hb.2.1
  simp [initSt, avPVs, avPV, avBoxesL, avBoxes, rvGroup, tx, num, rvPeers]
  refine loop_EC (X := Nat) (fun i => ⟨envOf [(0, .val (.list 6 (old.map rvPeer))), (5, .own 11), (13, .val (.list 3 (g.targets.map rvTarget))), (14, .val (num g.targets.length)), (15, .val (num i))], memOf [(11, .row 67 6 ((lkeep old (g.targets.take i)).map rvPeer))]⟩) (fun i => i ≤ g.targets.length) (fun i => g.targets.length - i) 0 (Le.mk _ _ ?_ ?_) ?_ ?_
  · simp [upd, num, PV.kill]
  · simp [upd, lkeep, MObj.kill, PV.kill]
  · simp
  · intro i hi
    simp [num]
    refine iteP_intro (fun h1 => ?_) (fun h1 => ?_)
    · have e2 := lkeep_take old g.targets i h1
      obtain ⟨t, ht⟩ : ∃ t, g.targets[i] = t := ⟨_, rfl⟩
      rw [ht] at e2
      have hlen : (lkeep old (g.targets.take i)).length = i := by simp [lkeep]; omega
      simp [num, h1, ht, rvTarget, tx, PV.kill, MObj.kill]
      refine loop_EC (X := Nat) (fun k => kp2 old g i k ((lkeep old (g.targets.take i)).map rvPeer) t (lkeep1 (old.take k) t)) (fun k => k ≤ old.length) (fun k => old.length - k) 0 (Le.mk _ _ ?_ ?_) ?_ ?_
      · simp [num, PV.kill, upd, tx]
      · simp [num, MObj.kill, PV.kill, upd, tx, lkeep1, lknown]
      · simp
      · intro k hk
        unfold kp2
        simp [num]
        refine iteP_intro (fun h2 => ?_) (fun h2 => ?_)
        · have e3 := lkeep1_take old t k h2
          have ey : ∀ o, (lkeep1 o t).target = t := fun _ => rfl
          have eg : ∀ o, (lkeep1 o t).gone = false := fun _ => rfl
          obtain ⟨p, hp⟩ : ∃ p, old[k] = p := ⟨_, rfl⟩
          rw [hp] at e3
          obtain ⟨y, hy⟩ : ∃ y, lkeep1 (old.take k) t = y := ⟨_, rfl⟩
          have hyt := ey (old.take k)
          have hyg := eg (old.take k)
          rw [hy] at e3 hyt hyg
          have w1 : IntKind.i64.wrap ((k : Int) + 1) = (k : Int) + 1 := wrap_i64 (by omega) (by omega)
          by_cases hu : p.target.url = t.url
          · cases hgn : p.gone with
            | true =>
              rw [if_neg (by simp [hgn])] at e3
              simp [num, h2, hp, rvPeer, tx, PV.kill, MObj.kill, hy, bs_inj, hu, hgn]
              refine LoopNext.mk (k + 1) (by omega) (by omega) (Le.mk _ _ ?_ ?_)
              · simp [num, PV.kill, e3, w1]
              · simp [tx, num, MObj.kill, PV.kill, e3]
            | false =>
              rw [if_pos ⟨hu, hgn⟩] at e3
              simp [num, h2, hp, rvPeer, tx, PV.kill, MObj.kill, hy, bs_inj, hu, hgn]
              refine keep_s38 p y _ ?_ ?_ ?_ ?_ (fun st' q1 q2 q3 => ?_)
              · simp
              · simp
              · simp [tx, num, hu, hgn]
              · simp [tx, num]
              · simp [q1]
                refine LoopNext.mk (k + 1) (by omega) (by omega) (Le.mk _ _ ?_ ?_)
                · simp [q1, num, PV.kill, e3, w1]
                · simp [q2, q3, tx, num, MObj.kill, PV.kill, e3]
          · rw [if_neg (fun h => hu h.1)] at e3
            simp [num, h2, hp, rvPeer, tx, PV.kill, MObj.kill, hy, bs_inj, hu]
            refine LoopNext.mk (k + 1) (by omega) (by omega) (Le.mk _ _ ?_ ?_)
            · simp [num, PV.kill, e3, w1]
            · simp [tx, num, MObj.kill, PV.kill, e3]
        · have e : k = old.length := by omega
          subst e
          rw [List.take_length]
          simp [num, tx, vals?, hlen]
          refine ⟨by omega, by omega, ?_⟩
          refine LoopNext.mk (i + 1) (by omega) (by omega) (Le.mk _ _ ?_ ?_)
          · simp [num, PV.kill]; exact wrap_i64 (by omega) (by omega)
          · simp [tx, num, MObj.kill, PV.kill, e2, rvPeer, lkeep1]
    · have e : i = g.targets.length := by omega
      subst e
      simp [num, List.take_length]

theorem i_KP_code (old : List LPeer) (g : LGroup) : lfirst [if 4096 < old.length then 2 else if lpeersOK old then 0 else 1, if lgroupOK g then 0 else 1] = lkeepC old g := by
  unfold lkeepC
  by_cases h : 4096 < old.length
  · rw [if_pos h, if_pos h]; exact lfirst_ne (show (2 : Int) ≠ 0 by decide) _
  · rw [if_neg h, if_neg h]
    cases lpeersOK old <;> cases lgroupOK g <;> rfl

theorem i_KP_err (old : List LPeer) (g : LGroup) (c : Int) (hc : lkeepC old g = c) (h0 : c ≠ 0) (hl : old.length ≤ 1048576) (hs : ∀ p ∈ old, p.target.url.length ≤ 1048576) (hb : bdGroup 1048576 g) : CallOK Tryz.prog 43 [.val (rvPeers old), .val (rvGroup g)] (.ret (.tup [.val (rvPeers []), .val (num c)]) []) [] := by
  refine call_val mixed ok43 rfl (fun _ => rfl) ?_
  unfold ir43
  rw [evalC_intro]
  have hP := i_peersCode old (by omega) (fun p hp => by have := hs p hp; omega)
  have hG := i_GroupOK g hb
  have hU := i_unless (lgroupOK g) 1
  have hF := i_first [if 4096 < old.length then 2 else if lpeersOK old then 0 else 1, if lgroupOK g then 0 else 1] (by simp)
  rw [i_KP_code, hc] at hF
  simp only [List.map] at hF
  generalize (if 4096 < old.length then (2 : Int) else if lpeersOK old = true then 0 else 1) = c1 at *
  generalize (if lgroupOK g = true then (0 : Int) else 1) = c2 at *
  simp [initSt, avPVs, avPV, avBoxesL, avBoxes, rvPeers, rvGroup, num, tx]
  refine callX_val rfl rfl (.inl rfl) hP ?_
  simp [rvPeers, num]
  refine callS_val rfl rfl (.inl rfl) hG ?_
  simp [rvPeers, num]
  refine callS_val rfl rfl (.inl rfl) hU ?_
  simp [rvPeers, num, elems]
  refine callS_val rfl rfl (.inr rfl) hF ?_
  simp [rvPeers, num, h0]

theorem i_KP_ok (old : List LPeer) (g : LGroup) (hc : lkeepC old g = 0) (hl : old.length ≤ 4096) (hs : ∀ p ∈ old, p.target.url.length ≤ 1048576) (hb : bdGroup 1048576 g) : CallOK Tryz.prog 43 [.val (rvPeers old), .val (rvGroup g)] (.ret (.tup [.own 0, .val (num 0)]) [⟨67, 6, (lkeep old g.targets).map rvPeer⟩]) [] := by
  refine call_mk (mk := fun i => .tup [.own i, .val (num 0)]) mixed ok43 rfl (fun _ => rfl) ?_
  unfold ir43
  rw [evalC_intro]
  have hP := i_peersCode old (by omega) (fun p hp => by have := hs p hp; omega)
  have hG := i_GroupOK g hb
  have hU := i_unless (lgroupOK g) 1
  have hF := i_first [if 4096 < old.length then 2 else if lpeersOK old then 0 else 1, if lgroupOK g then 0 else 1] (by simp)
  have hK := i_keepPeers old g hl hb
  rw [i_KP_code, hc] at hF
  simp only [List.map] at hF
  generalize (if 4096 < old.length then (2 : Int) else if lpeersOK old = true then 0 else 1) = c1 at *
  generalize (if lgroupOK g = true then (0 : Int) else 1) = c2 at *
  simp [initSt, avPVs, avPV, avBoxesL, avBoxes, rvPeers, rvGroup, num, tx]
  refine callX_val rfl rfl (.inl rfl) hP ?_
  simp [rvPeers, num]
  refine callS_val rfl rfl (.inl rfl) hG ?_
  simp [rvPeers, num]
  refine callS_val rfl rfl (.inl rfl) hU ?_
  simp [rvPeers, num, elems]
  refine callS_val rfl rfl (.inr rfl) hF ?_
  simp [rvPeers, num]
  refine callS_mk rfl rfl rfl (.inl rfl) hK ?_
  simp [rvPeers, num, rowBase, PV.shift, PV.shiftL, PV.kill, MObj.kill]

theorem i_KP_okv (old : List LPeer) (g : LGroup) (hc : lkeepC old g = 0) (hl : old.length ≤ 4096) (hs : ∀ p ∈ old, p.target.url.length ≤ 1048576) (hb : bdGroup 1048576 g) : CallOK Tryz.prog 43 [.val (rvPeers old), .val (rvGroup g)] (.ret (.tup [.val (rvPeers (lkeep old g.targets)), .val (num 0)]) []) [] := by
  refine call_val mixed ok43 rfl (fun _ => rfl) ?_
  unfold ir43
  rw [evalC_intro]
  have hP := i_peersCode old (by omega) (fun p hp => by have := hs p hp; omega)
  have hG := i_GroupOK g hb
  have hU := i_unless (lgroupOK g) 1
  have hF := i_first [if 4096 < old.length then 2 else if lpeersOK old then 0 else 1, if lgroupOK g then 0 else 1] (by simp)
  have hK := i_keepPeers old g hl hb
  rw [i_KP_code, hc] at hF
  simp only [List.map] at hF
  generalize (if 4096 < old.length then (2 : Int) else if lpeersOK old = true then 0 else 1) = c1 at *
  generalize (if lgroupOK g = true then (0 : Int) else 1) = c2 at *
  simp [initSt, avPVs, avPV, avBoxesL, avBoxes, rvPeers, rvGroup, num, tx]
  refine callX_val rfl rfl (.inl rfl) hP ?_
  simp [rvPeers, num]
  refine callS_val rfl rfl (.inl rfl) hG ?_
  simp [rvPeers, num]
  refine callS_val rfl rfl (.inl rfl) hU ?_
  simp [rvPeers, num, elems]
  refine callS_val rfl rfl (.inr rfl) hF ?_
  simp [rvPeers, num]
  refine callS_mk rfl rfl rfl (.inl rfl) hK ?_
  simp [rvPeers, num, rowBase, PV.shift, PV.shiftL, PV.kill, MObj.kill, frzOf, PV.pl]

theorem i_PO_err (g : LGroup) (c : Int) (hc : lkeepC [] g = c) (h0 : c ≠ 0) (hb : bdGroup 1048576 g) : CallOK Tryz.prog 45 [.val (rvGroup g)] (.ret (.tup [.val (rvPeers []), .val (num c)]) []) [] := by
  refine call_val mixed ok45 rfl (fun _ => rfl) ?_
  unfold ir45
  rw [evalC_intro]
  have h := i_KP_err [] g c hc h0 (by simp) (by simp) hb
  simp [initSt, avPVs, avPV, avBoxesL, avBoxes, rvPeers, rvGroup, num, tx]
  refine callS_two rfl rfl (.inl rfl) h ?_
  simp [rvPeers, num]

theorem i_PO_ok (g : LGroup) (hc : lkeepC [] g = 0) (hb : bdGroup 1048576 g) : CallOK Tryz.prog 45 [.val (rvGroup g)] (.ret (.tup [.own 0, .val (num 0)]) [⟨67, 6, (lkeep [] g.targets).map rvPeer⟩]) [] := by
  refine call_mk (mk := fun i => .tup [.own i, .val (num 0)]) mixed ok45 rfl (fun _ => rfl) ?_
  unfold ir45
  rw [evalC_intro]
  have h := i_KP_ok [] g hc (by simp) (by simp) hb
  simp [initSt, avPVs, avPV, avBoxesL, avBoxes, rvPeers, rvGroup, num, tx]
  refine callS_mk rfl rfl rfl (.inl rfl) h ?_
  simp [rvPeers, num, rowBase, PV.shift, PV.shiftL, PV.kill, MObj.kill]
end Go.Proofs
end

/- Functions of the seat as data. MADE BY PROGRAM (print_ir.py). -/
section
set_option maxRecDepth 100000
namespace Go.Proofs
open Go.PW

/-- loop.example/g00779/laws.FnExactPeersOf -/
def ir10 : PC :=
 .seq (
 .reg [
   ⟨some 1, .box (.t 0), none⟩,
   ⟨some 2, .mov (.k (.val (.bool false))), none⟩]) (
 .seq (
 .reg [
   ⟨some 3, .mov (.k (.val (.int .i64 1048576))), none⟩]) (
 .seq (
 .reg [
   ⟨some 14, .load true 3 (.t 1), none⟩,
   ⟨some 15, .mov (.t 3), none⟩,
   ⟨some 16, .call 48 [.t 14, .t 15], none⟩,
   ⟨some 3, .mov (.t 16), none⟩]) (
 .seq (
 .seq (
 .reg [
   ⟨some 17, .mov (.t 3), none⟩,
   ⟨some 18, .bin .lss (.t 17) (.k (.val (.int .i64 0))), none⟩]) (
 .cond (.t 18) (
  .seq (
  .reg [
    ⟨some 2, .mov (.k (.val (.bool true))), none⟩]) (
  .ret)) (
  .skip))) (
 .seq (
 .reg [
   ⟨some 20, .load true 3 (.t 1), none⟩,
   ⟨some 21, .call 49 [.t 20], none⟩,
   ⟨some 22, .call 46 [.t 21], none⟩,
   ⟨some 19, .mov (.t 22), none⟩,
   ⟨some 23, .ext 0 (.t 19), none⟩,
   ⟨some 24, .ext 1 (.t 19), none⟩,
   ⟨some 4, .mov (.t 23), none⟩,
   ⟨some 5, .mov (.t 24), none⟩]) (
 .seq (
 .reg [
   ⟨some 25, .load true 3 (.t 1), none⟩,
   ⟨some 26, .call 49 [.t 25], none⟩,
   ⟨some 6, .alloc [.val (.str ⟨#[]⟩), .val (.int .i64 0), .emp 3], none⟩,
   ⟨none, .store 3 (.t 6) (.t 26), none⟩]) (
 .seq (
 .reg [
   ⟨some 28, .load true 3 (.t 6), none⟩,
   ⟨some 29, .call 45 [.t 28], none⟩,
   ⟨some 27, .mov (.t 29), none⟩,
   ⟨some 30, .ext 0 (.t 27), none⟩,
   ⟨some 31, .ext 1 (.t 27), none⟩,
   ⟨some 7, .mov (.t 30), none⟩,
   ⟨some 8, .mov (.t 31), none⟩]) (
 .seq (
 .seq (
 .reg [
   ⟨some 32, .mov (.t 7), none⟩,
   ⟨some 33, .mov (.t 4), none⟩,
   ⟨some 34, .call 28 [.t 32, .t 33], none⟩,
   ⟨some 35, .un .not (.t 34), none⟩,
   ⟨some 36, .mov (.t 35), none⟩,
   ⟨some 37, .mov (.t 8), some (36, false)⟩,
   ⟨some 38, .mov (.t 5), some (36, false)⟩,
   ⟨some 39, .bin .neq (.t 37) (.t 38), some (36, false)⟩,
   ⟨some 40, .pick (.t 36) (.k (.val (.bool true))) (.t 39), none⟩]) (
 .cond (.t 40) (
  .seq (
  .reg [
    ⟨some 2, .mov (.k (.val (.bool false))), none⟩]) (
  .ret)) (
  .skip))) (
 .seq (
 .seq (
 .draw [
   ⟨some 41, .load true 3 (.t 6), none⟩,
   ⟨some 42, .load true 3 (.t 1), none⟩,
   ⟨some 43, .call 49 [.t 42], none⟩] [
   ⟨some 44, .call 50 [.t 41, .t 43], none⟩,
   ⟨some 45, .un .not (.t 44), none⟩]) (
 .cond (.t 45) (
  .seq (
  .reg [
    ⟨some 2, .mov (.k (.val (.bool false))), none⟩]) (
  .ret)) (
  .skip))) (
 .seq (
 .reg [
   ⟨some 9, .mov (.k (.val (.int .i64 1))), none⟩]) (
 .seq (
 .reg [
   ⟨some 46, .load true 3 (.t 6), none⟩,
   ⟨some 47, .mov (.t 9), none⟩,
   ⟨some 48, .callr 51 (.t 46) [.t 47], none⟩,
   ⟨some 9, .mov (.t 48), none⟩]) (
 .seq (
 .seq (
 .reg [
   ⟨some 49, .mov (.t 9), none⟩,
   ⟨some 50, .bin .lss (.t 49) (.k (.val (.int .i64 0))), none⟩,
   ⟨some 51, .mov (.t 50), none⟩,
   ⟨some 52, .mov (.t 7), some (51, false)⟩,
   ⟨some 53, .mov (.t 4), some (51, false)⟩,
   ⟨some 54, .call 28 [.t 52, .t 53], some (51, false)⟩,
   ⟨some 55, .un .not (.t 54), some (51, false)⟩,
   ⟨some 56, .pick (.t 51) (.k (.val (.bool true))) (.t 55), none⟩,
   ⟨some 57, .mov (.t 56), none⟩,
   ⟨some 58, .mov (.t 8), some (57, false)⟩,
   ⟨some 59, .mov (.t 5), some (57, false)⟩,
   ⟨some 60, .bin .neq (.t 58) (.t 59), some (57, false)⟩,
   ⟨some 61, .pick (.t 57) (.k (.val (.bool true))) (.t 60), none⟩]) (
 .cond (.t 61) (
  .seq (
  .reg [
    ⟨some 2, .mov (.k (.val (.bool false))), none⟩]) (
  .ret)) (
  .skip))) (
 .seq (
 .reg [
   ⟨some 10, .mov (.k (.val (.int .i64 1))), none⟩]) (
 .seq (
 .reg [
   ⟨some 62, .mov (.t 7), none⟩,
   ⟨some 63, .mov (.t 10), none⟩,
   ⟨some 64, .callr 29 (.t 62) [.t 63], none⟩,
   ⟨some 10, .mov (.t 64), none⟩]) (
 .seq (
 .reg [
   ⟨some 11, .mov (.k (.val (.int .i64 1))), none⟩]) (
 .seq (
 .reg [
   ⟨some 65, .mov (.t 7), none⟩,
   ⟨some 66, .mov (.t 11), none⟩,
   ⟨some 67, .call 30 [.t 65, .t 66], none⟩,
   ⟨some 11, .mov (.t 67), none⟩]) (
 .seq (
 .seq (
 .reg [
   ⟨some 68, .mov (.t 11), none⟩,
   ⟨some 69, .bin .lss (.t 68) (.k (.val (.int .i64 0))), none⟩]) (
 .cond (.t 69) (
  .seq (
  .reg [
    ⟨some 2, .mov (.k (.val (.bool false))), none⟩]) (
  .ret)) (
  .skip))) (
 .seq (
 .seq (
 .reg [
   ⟨some 70, .mov (.t 11), none⟩,
   ⟨some 71, .mov (.t 10), none⟩,
   ⟨some 72, .bin .neq (.t 70) (.t 71), none⟩]) (
 .cond (.t 72) (
  .seq (
  .reg [
    ⟨some 2, .mov (.k (.val (.bool false))), none⟩]) (
  .ret)) (
  .skip))) (
 .seq (
 .reg [
   ⟨some 74, .load true 3 (.t 1), none⟩,
   ⟨some 75, .call 49 [.t 74], none⟩,
   ⟨some 76, .call 45 [.t 75], none⟩,
   ⟨some 73, .mov (.t 76), none⟩,
   ⟨some 77, .ext 0 (.t 73), none⟩,
   ⟨some 78, .ext 1 (.t 73), none⟩,
   ⟨some 12, .mov (.t 77), none⟩,
   ⟨some 13, .mov (.t 78), none⟩]) (
 .seq (
 .seq (
 .reg [
   ⟨some 79, .mov (.t 12), none⟩,
   ⟨some 80, .mov (.t 4), none⟩,
   ⟨some 81, .call 28 [.t 79, .t 80], none⟩,
   ⟨some 82, .un .not (.t 81), none⟩,
   ⟨some 83, .mov (.t 82), none⟩,
   ⟨some 84, .mov (.t 13), some (83, false)⟩,
   ⟨some 85, .mov (.t 5), some (83, false)⟩,
   ⟨some 86, .bin .neq (.t 84) (.t 85), some (83, false)⟩,
   ⟨some 87, .pick (.t 83) (.k (.val (.bool true))) (.t 86), none⟩]) (
 .cond (.t 87) (
  .seq (
  .reg [
    ⟨some 2, .mov (.k (.val (.bool false))), none⟩]) (
  .ret)) (
  .skip))) (
 .seq (
 .reg [
   ⟨some 11, .mov (.k (.val (.int .i64 1))), none⟩]) (
 .seq (
 .reg [
   ⟨some 88, .mov (.t 7), none⟩,
   ⟨some 89, .mov (.t 11), none⟩,
   ⟨some 90, .call 30 [.t 88, .t 89], none⟩,
   ⟨some 11, .mov (.t 90), none⟩]) (
 .seq (
 .seq (
 .reg [
   ⟨some 91, .mov (.t 11), none⟩,
   ⟨some 92, .bin .lss (.t 91) (.k (.val (.int .i64 0))), none⟩]) (
 .cond (.t 92) (
  .seq (
  .reg [
    ⟨some 2, .mov (.k (.val (.bool false))), none⟩]) (
  .ret)) (
  .skip))) (
 .seq (
 .seq (
 .reg [
   ⟨some 93, .mov (.t 11), none⟩,
   ⟨some 94, .mov (.t 10), none⟩,
   ⟨some 95, .bin .neq (.t 93) (.t 94), none⟩]) (
 .cond (.t 95) (
  .seq (
  .reg [
    ⟨some 2, .mov (.k (.val (.bool false))), none⟩]) (
  .ret)) (
  .skip))) (
 .seq (
 .reg [
   ⟨some 2, .mov (.k (.val (.bool true))), none⟩]) (
 .ret)))))))))))))))))))))))))
theorem ok10 : chkFn Tryz.prog 10 ir10 1 [.t 2] = true := by kernel_rfl

/-- loop.example/g00779/laws.FnExactKeepPeers -/
def ir12 : PC :=
 .seq (
 .reg [
   ⟨some 3, .box (.t 1), none⟩,
   ⟨some 4, .mov (.k (.val (.bool false))), none⟩]) (
 .seq (
 .reg [
   ⟨some 5, .mov (.k (.val (.int .i64 1048576))), none⟩]) (
 .seq (
 .reg [
   ⟨some 17, .mov (.t 0), none⟩,
   ⟨some 18, .mov (.t 5), none⟩,
   ⟨some 19, .call 24 [.t 17, .t 18], none⟩,
   ⟨some 5, .mov (.t 19), none⟩]) (
 .seq (
 .seq (
 .reg [
   ⟨some 20, .mov (.t 5), none⟩,
   ⟨some 21, .bin .lss (.t 20) (.k (.val (.int .i64 0))), none⟩]) (
 .cond (.t 21) (
  .seq (
  .reg [
    ⟨some 4, .mov (.k (.val (.bool true))), none⟩]) (
  .ret)) (
  .skip))) (
 .seq (
 .reg [
   ⟨some 22, .load true 3 (.t 3), none⟩,
   ⟨some 23, .mov (.t 5), none⟩,
   ⟨some 24, .call 48 [.t 22, .t 23], none⟩,
   ⟨some 5, .mov (.t 24), none⟩]) (
 .seq (
 .seq (
 .reg [
   ⟨some 25, .mov (.t 5), none⟩,
   ⟨some 26, .bin .lss (.t 25) (.k (.val (.int .i64 0))), none⟩]) (
 .cond (.t 26) (
  .seq (
  .reg [
    ⟨some 4, .mov (.k (.val (.bool true))), none⟩]) (
  .ret)) (
  .skip))) (
 .seq (
 .draw [
   ⟨some 28, .mov (.t 0), none⟩,
   ⟨some 29, .call 26 [.t 28], none⟩,
   ⟨some 30, .load true 3 (.t 3), none⟩,
   ⟨some 31, .call 49 [.t 30], none⟩,
   ⟨some 32, .call 44 [.t 29, .t 31], none⟩,
   ⟨some 27, .mov (.t 32), none⟩,
   ⟨some 33, .ext 0 (.t 27), none⟩,
   ⟨some 34, .ext 1 (.t 27), none⟩,
   ⟨some 6, .mov (.t 33), none⟩] [
   ⟨some 7, .mov (.t 34), none⟩]) (
 .seq (
 .reg [
   ⟨some 35, .mov (.t 0), none⟩,
   ⟨some 36, .call 26 [.t 35], none⟩,
   ⟨some 8, .mov (.t 36), none⟩]) (
 .seq (
 .reg [
   ⟨some 37, .load true 3 (.t 3), none⟩,
   ⟨some 38, .call 49 [.t 37], none⟩,
   ⟨some 9, .alloc [.val (.str ⟨#[]⟩), .val (.int .i64 0), .emp 3], none⟩,
   ⟨none, .store 3 (.t 9) (.t 38), none⟩]) (
 .seq (
 .reg [
   ⟨some 40, .mov (.t 8), none⟩,
   ⟨some 41, .load true 3 (.t 9), none⟩,
   ⟨some 42, .call 43 [.t 40, .t 41], none⟩,
   ⟨some 39, .mov (.t 42), none⟩,
   ⟨some 43, .ext 0 (.t 39), none⟩,
   ⟨some 44, .ext 1 (.t 39), none⟩,
   ⟨some 10, .mov (.t 43), none⟩,
   ⟨some 11, .mov (.t 44), none⟩]) (
 .seq (
 .seq (
 .reg [
   ⟨some 45, .mov (.t 10), none⟩,
   ⟨some 46, .mov (.t 6), none⟩,
   ⟨some 47, .call 28 [.t 45, .t 46], none⟩,
   ⟨some 48, .un .not (.t 47), none⟩,
   ⟨some 49, .mov (.t 48), none⟩,
   ⟨some 50, .mov (.t 11), some (49, false)⟩,
   ⟨some 51, .mov (.t 7), some (49, false)⟩,
   ⟨some 52, .bin .neq (.t 50) (.t 51), some (49, false)⟩,
   ⟨some 53, .pick (.t 49) (.k (.val (.bool true))) (.t 52), none⟩]) (
 .cond (.t 53) (
  .seq (
  .reg [
    ⟨some 4, .mov (.k (.val (.bool false))), none⟩]) (
  .ret)) (
  .skip))) (
 .seq (
 .seq (
 .reg [
   ⟨some 54, .mov (.t 8), none⟩,
   ⟨some 55, .mov (.t 0), none⟩,
   ⟨some 56, .call 26 [.t 55], none⟩,
   ⟨some 57, .call 28 [.t 54, .t 56], none⟩,
   ⟨some 58, .un .not (.t 57), none⟩]) (
 .cond (.t 58) (
  .seq (
  .reg [
    ⟨some 4, .mov (.k (.val (.bool false))), none⟩]) (
  .ret)) (
  .skip))) (
 .seq (
 .seq (
 .draw [
   ⟨some 59, .load true 3 (.t 9), none⟩,
   ⟨some 60, .load true 3 (.t 3), none⟩,
   ⟨some 61, .call 49 [.t 60], none⟩] [
   ⟨some 62, .call 50 [.t 59, .t 61], none⟩,
   ⟨some 63, .un .not (.t 62), none⟩]) (
 .cond (.t 63) (
  .seq (
  .reg [
    ⟨some 4, .mov (.k (.val (.bool false))), none⟩]) (
  .ret)) (
  .skip))) (
 .seq (
 .reg [
   ⟨some 12, .mov (.k (.val (.int .i64 1))), none⟩]) (
 .seq (
 .reg [
   ⟨some 64, .mov (.t 8), none⟩,
   ⟨some 65, .mov (.t 12), none⟩,
   ⟨some 66, .callr 29 (.t 64) [.t 65], none⟩,
   ⟨some 12, .mov (.t 66), none⟩]) (
 .seq (
 .reg [
   ⟨some 67, .load true 3 (.t 9), none⟩,
   ⟨some 68, .mov (.t 12), none⟩,
   ⟨some 69, .callr 51 (.t 67) [.t 68], none⟩,
   ⟨some 12, .mov (.t 69), none⟩]) (
 .seq (
 .seq (
 .reg [
   ⟨some 70, .mov (.t 12), none⟩,
   ⟨some 71, .bin .lss (.t 70) (.k (.val (.int .i64 0))), none⟩,
   ⟨some 72, .mov (.t 71), none⟩,
   ⟨some 73, .mov (.t 10), some (72, false)⟩,
   ⟨some 74, .mov (.t 6), some (72, false)⟩,
   ⟨some 75, .call 28 [.t 73, .t 74], some (72, false)⟩,
   ⟨some 76, .un .not (.t 75), some (72, false)⟩,
   ⟨some 77, .pick (.t 72) (.k (.val (.bool true))) (.t 76), none⟩,
   ⟨some 78, .mov (.t 77), none⟩,
   ⟨some 79, .mov (.t 11), some (78, false)⟩,
   ⟨some 80, .mov (.t 7), some (78, false)⟩,
   ⟨some 81, .bin .neq (.t 79) (.t 80), some (78, false)⟩,
   ⟨some 82, .pick (.t 78) (.k (.val (.bool true))) (.t 81), none⟩]) (
 .cond (.t 82) (
  .seq (
  .reg [
    ⟨some 4, .mov (.k (.val (.bool false))), none⟩]) (
  .ret)) (
  .skip))) (
 .seq (
 .reg [
   ⟨some 13, .mov (.k (.val (.int .i64 1))), none⟩]) (
 .seq (
 .reg [
   ⟨some 83, .mov (.t 10), none⟩,
   ⟨some 84, .mov (.t 13), none⟩,
   ⟨some 85, .callr 29 (.t 83) [.t 84], none⟩,
   ⟨some 13, .mov (.t 85), none⟩]) (
 .seq (
 .reg [
   ⟨some 14, .mov (.k (.val (.int .i64 1))), none⟩]) (
 .seq (
 .reg [
   ⟨some 86, .mov (.t 10), none⟩,
   ⟨some 87, .mov (.t 14), none⟩,
   ⟨some 88, .call 30 [.t 86, .t 87], none⟩,
   ⟨some 14, .mov (.t 88), none⟩]) (
 .seq (
 .seq (
 .reg [
   ⟨some 89, .mov (.t 14), none⟩,
   ⟨some 90, .bin .lss (.t 89) (.k (.val (.int .i64 0))), none⟩]) (
 .cond (.t 90) (
  .seq (
  .reg [
    ⟨some 4, .mov (.k (.val (.bool false))), none⟩]) (
  .ret)) (
  .skip))) (
 .seq (
 .seq (
 .reg [
   ⟨some 91, .mov (.t 14), none⟩,
   ⟨some 92, .mov (.t 13), none⟩,
   ⟨some 93, .bin .neq (.t 91) (.t 92), none⟩]) (
 .cond (.t 93) (
  .seq (
  .reg [
    ⟨some 4, .mov (.k (.val (.bool false))), none⟩]) (
  .ret)) (
  .skip))) (
 .seq (
 .draw [
   ⟨some 95, .mov (.t 0), none⟩,
   ⟨some 96, .call 26 [.t 95], none⟩,
   ⟨some 97, .load true 3 (.t 3), none⟩,
   ⟨some 98, .call 49 [.t 97], none⟩,
   ⟨some 99, .call 43 [.t 96, .t 98], none⟩,
   ⟨some 94, .mov (.t 99), none⟩,
   ⟨some 100, .ext 0 (.t 94), none⟩,
   ⟨some 101, .ext 1 (.t 94), none⟩,
   ⟨some 15, .mov (.t 100), none⟩] [
   ⟨some 16, .mov (.t 101), none⟩]) (
 .seq (
 .seq (
 .reg [
   ⟨some 102, .mov (.t 15), none⟩,
   ⟨some 103, .mov (.t 6), none⟩,
   ⟨some 104, .call 28 [.t 102, .t 103], none⟩,
   ⟨some 105, .un .not (.t 104), none⟩,
   ⟨some 106, .mov (.t 105), none⟩,
   ⟨some 107, .mov (.t 16), some (106, false)⟩,
   ⟨some 108, .mov (.t 7), some (106, false)⟩,
   ⟨some 109, .bin .neq (.t 107) (.t 108), some (106, false)⟩,
   ⟨some 110, .pick (.t 106) (.k (.val (.bool true))) (.t 109), none⟩]) (
 .cond (.t 110) (
  .seq (
  .reg [
    ⟨some 4, .mov (.k (.val (.bool false))), none⟩]) (
  .ret)) (
  .skip))) (
 .seq (
 .reg [
   ⟨some 14, .mov (.k (.val (.int .i64 1))), none⟩]) (
 .seq (
 .reg [
   ⟨some 111, .mov (.t 10), none⟩,
   ⟨some 112, .mov (.t 14), none⟩,
   ⟨some 113, .call 30 [.t 111, .t 112], none⟩,
   ⟨some 14, .mov (.t 113), none⟩]) (
 .seq (
 .seq (
 .reg [
   ⟨some 114, .mov (.t 14), none⟩,
   ⟨some 115, .bin .lss (.t 114) (.k (.val (.int .i64 0))), none⟩]) (
 .cond (.t 115) (
  .seq (
  .reg [
    ⟨some 4, .mov (.k (.val (.bool false))), none⟩]) (
  .ret)) (
  .skip))) (
 .seq (
 .seq (
 .reg [
   ⟨some 116, .mov (.t 14), none⟩,
   ⟨some 117, .mov (.t 13), none⟩,
   ⟨some 118, .bin .neq (.t 116) (.t 117), none⟩]) (
 .cond (.t 118) (
  .seq (
  .reg [
    ⟨some 4, .mov (.k (.val (.bool false))), none⟩]) (
  .ret)) (
  .skip))) (
 .seq (
 .reg [
   ⟨some 4, .mov (.k (.val (.bool true))), none⟩]) (
 .ret))))))))))))))))))))))))))))))
theorem ok12 : chkFn Tryz.prog 12 ir12 2 [.t 4] = true := by kernel_rfl

end Go.Proofs
end

/- The laws of PeersOf and KeepPeers. MADE BY PROGRAM (gen_keeplaw.py). -/
section
set_option maxRecDepth 100000
set_option linter.unusedVariables false
set_option linter.unusedSectionVars false
set_option linter.unusedSimpArgs false
namespace Go.Proofs
open Go.PW Go.KP
attribute [local simp] RV.cells RV.one PV.cells PV.solid PV.one vals? allVal mkAgg setAt RV.ofCells elems PV.killL
variable [GH]

theorem lsz_le {l : List LPeer} {left : Int} (h : 0 ≤ left) : lsz l left ≤ left := by
  unfold lsz
  split <;> omega
theorem lkeepC_nil {g : LGroup} (h : lkeepC [] g = 0) : lgroupOK g = true := by
  have h1 : lpeersOK [] = true := rfl
  unfold lkeepC at h
  rw [if_neg (by simp), if_pos h1] at h
  cases hg : lgroupOK g with
  | true => rfl
  | false => rw [hg, if_neg (by simp)] at h; cases h
theorem lkeepC_nil' {g : LGroup} (h : lgroupOK g = true) : lkeepC [] g = 0 := by
  have h1 : lpeersOK [] = true := rfl
  unfold lkeepC
  rw [if_neg (by simp), if_pos h1, if_pos h]
theorem lkeepC_len {l : List LPeer} {g : LGroup} (h : lkeepC l g = 0) : l.length ≤ 4096 := by
  unfold lkeepC at h
  split at h
  · cases h
  · omega

theorem law_PeersOf_err (g : LGroup) (hb : bdGroup 9223372036854775807 g) (c : Int) (hc : lkeepC [] g = c) (h0 : c ≠ 0) : CallOK Tryz.prog 10 [.val (rvGroup g)] (.ret (.val (.bool true)) []) [] := by
  refine call_val mixed ok10 rfl (fun _ => rfl) ?_
  unfold ir10
  rw [evalC_intro]
  simp [initSt, avPVs, avPV, avBoxesL, avBoxes, rvPeers, rvGroup, tx, num]
  refine callS_val rfl rfl (.inl rfl) (g_szGroup g 1048576 (by omega) (by omega) hb) ?_
  by_cases hz : cut 1048576 (zGroup g) < 0
  · simp [num, hz]
  · have hs : bdGroup 1048576 g := zGroup_bd (by obtain ⟨hz1, _⟩ := cut_small hz (by omega); omega)
    have hsp := c_specPO g hs
    have hip := i_PO_err g c hc h0 hs
    rw [hc, if_neg (fun h => h0 (by rw [← hc]; exact lkeepC_nil' h))] at hsp
    have htl : g.targets.length ≤ 1048576 := hs.2.1
    have hmk := g_markGroup g 1 (by omega) hs
    have hne1 : ¬ ((1 + 3 * g.targets.length : Nat) : Int) < 0 := by omega
    generalize ((1 + 3 * g.targets.length : Nat) : Int) = m1 at hmk hne1
    simp [gPV, rvGroup, rvPeers, num, tx, allVal, rowBase, PV.shift, PV.shiftL, PV.kill, PV.killL, MObj.kill, PV.pl1, hne1, hz]
    refine callS_val rfl rfl (.inl rfl) (g_toGroup g hs) ?_
    simp [gPV, rvGroup, rvPeers, num, tx, allVal, rowBase, PV.shift, PV.shiftL, PV.kill, PV.killL, MObj.kill, PV.pl1]
    refine callS_two rfl rfl (.inl rfl) hsp ?_
    simp [gPV, rvGroup, rvPeers, num, tx, allVal, rowBase, PV.shift, PV.shiftL, PV.kill, PV.killL, MObj.kill, PV.pl1]
    refine callS_mk rfl rfl rfl (.inl rfl) (g_toGroup_own g hs) ?_
    simp [gPV, rvGroup, rvPeers, num, tx, allVal, rowBase, PV.shift, PV.shiftL, PV.kill, PV.killL, MObj.kill, PV.pl1]
    refine callS_two rfl rfl (.inr (by simp [PV.flat, PV.flat.go, RV.flat, rvPeers, num])) hip ?_
    simp [gPV, rvGroup, rvPeers, num, tx, allVal, rowBase, PV.shift, PV.shiftL, PV.kill, PV.killL, MObj.kill, PV.pl1]
    refine callS_val rfl rfl (.inl rfl) (c_eqPeerS [] (by simp)) ?_
    simp [gPV, rvGroup, rvPeers, num, tx, allVal, rowBase, PV.shift, PV.shiftL, PV.kill, PV.killL, MObj.kill, PV.pl1]
    refine callX_val rfl rfl (.inl rfl) (g_toGroup g hs) ?_
    simp [gPV, rvGroup, rvPeers, num, tx, allVal, rowBase, PV.shift, PV.shiftL, PV.kill, PV.killL, MObj.kill, PV.pl1]
    refine callS_val rfl rfl (.inr rfl) (g_eqGroup g hs) ?_
    simp [gPV, rvGroup, rvPeers, num, tx, allVal, rowBase, PV.shift, PV.shiftL, PV.kill, PV.killL, MObj.kill, PV.pl1]
    refine rowC rfl rfl rfl rfl hmk rfl ?_
    simp [gPV, rvGroup, rvPeers, num, tx, allVal, rowBase, PV.shift, PV.shiftL, PV.kill, PV.killL, MObj.kill, PV.pl1, hne1, hz]
    refine callS_val rfl rfl (.inl rfl) (c_eqPeerS [] (by simp)) ?_
    simp [gPV, rvGroup, rvPeers, num, tx, allVal, rowBase, PV.shift, PV.shiftL, PV.kill, PV.killL, MObj.kill, PV.pl1, hne1, hz]
    refine callS_val rfl rfl (.inl rfl) (c_markPeerS_nil 1) ?_
    simp [gPV, rvGroup, rvPeers, num, tx, allVal, rowBase, PV.shift, PV.shiftL, PV.kill, PV.killL, MObj.kill, PV.pl1, hne1, hz]
    refine callS_val rfl rfl (.inl rfl) (c_heldPeerS 0 1 (by omega) (by omega)) ?_
    simp [gPV, rvGroup, rvPeers, num, tx, allVal, rowBase, PV.shift, PV.shiftL, PV.kill, PV.killL, MObj.kill, PV.pl1, hne1, hz]
    refine callS_val rfl rfl (.inl rfl) (g_toGroup g hs) ?_
    simp [gPV, rvGroup, rvPeers, num, tx, allVal, rowBase, PV.shift, PV.shiftL, PV.kill, PV.killL, MObj.kill, PV.pl1]
    refine callS_two rfl rfl (.inl rfl) hip ?_
    simp [gPV, rvGroup, rvPeers, num, tx, allVal, rowBase, PV.shift, PV.shiftL, PV.kill, PV.killL, MObj.kill, PV.pl1]
    refine callS_val rfl rfl (.inl rfl) (c_eqPeerS [] (by simp)) ?_
    simp [gPV, rvGroup, rvPeers, num, tx, allVal, rowBase, PV.shift, PV.shiftL, PV.kill, PV.killL, MObj.kill, PV.pl1]
    refine callS_val rfl rfl (.inl rfl) (c_heldPeerS 0 1 (by omega) (by omega)) ?_
    simp [gPV, rvGroup, rvPeers, num, tx, allVal, rowBase, PV.shift, PV.shiftL, PV.kill, PV.killL, MObj.kill, PV.pl1]

theorem law_PeersOf_ok (g : LGroup) (hb : bdGroup 9223372036854775807 g) (hc : lkeepC [] g = 0) : CallOK Tryz.prog 10 [.val (rvGroup g)] (.ret (.val (.bool true)) []) [] := by
  refine call_val mixed ok10 rfl (fun _ => rfl) ?_
  unfold ir10
  rw [evalC_intro]
  simp [initSt, avPVs, avPV, avBoxesL, avBoxes, rvPeers, rvGroup, tx, num]
  refine callS_val rfl rfl (.inl rfl) (g_szGroup g 1048576 (by omega) (by omega) hb) ?_
  by_cases hz : cut 1048576 (zGroup g) < 0
  · simp [num, hz]
  · have hs : bdGroup 1048576 g := zGroup_bd (by obtain ⟨hz1, _⟩ := cut_small hz (by omega); omega)
    have hsp := c_specPO g hs
    have hip := i_PO_ok g hc hs
    rw [hc, if_pos (lkeepC_nil hc)] at hsp
    have htl : g.targets.length ≤ 1048576 := hs.2.1
    have hmk := g_markGroup g 1 (by omega) hs
    obtain ⟨r, hr⟩ : ∃ r, lkeep [] g.targets = r := ⟨_, rfl⟩
    have hrl : r.length = g.targets.length := by rw [← hr]; exact lkeep_len _ _
    rw [hr] at hsp hip
    have hmk2 := c_markPeerS r 1 (by omega) (by omega)
    have hhd := c_heldPeerS r.length 1 (by omega) (by omega)
    have hfl := flat_rvPeers r
    have hrl3 : r.length < 1099511627776 := by omega
    have hne2 : ¬ ((1 + 6 * r.length : Nat) : Int) < 0 := by omega
    have hne1 : ¬ ((1 + 3 * g.targets.length : Nat) : Int) < 0 := by omega
    generalize ((1 + 3 * g.targets.length : Nat) : Int) = m1 at hmk hne1
    generalize ((1 + 6 * r.length : Nat) : Int) = m2 at hmk2 hhd hne2
    simp [gPV, rvGroup, rvPeers, num, tx, allVal, rowBase, PV.shift, PV.shiftL, PV.kill, PV.killL, MObj.kill, PV.pl1, hne1, hne2, hz]
    refine callS_val rfl rfl (.inl rfl) (g_toGroup g hs) ?_
    simp [gPV, rvGroup, rvPeers, num, tx, allVal, rowBase, PV.shift, PV.shiftL, PV.kill, PV.killL, MObj.kill, PV.pl1]
    refine callS_two rfl rfl (.inl rfl) hsp ?_
    simp [gPV, rvGroup, rvPeers, num, tx, allVal, rowBase, PV.shift, PV.shiftL, PV.kill, PV.killL, MObj.kill, PV.pl1]
    refine callS_mk rfl rfl rfl (.inl rfl) (g_toGroup_own g hs) ?_
    simp [gPV, rvGroup, rvPeers, num, tx, allVal, rowBase, PV.shift, PV.shiftL, PV.kill, PV.killL, MObj.kill, PV.pl1]
    refine callS_mk rfl rfl rfl (.inr ⟨by simp [PV.flat, PV.flat.go, RV.flat, num], hfl⟩) hip ?_
    simp [gPV, rvGroup, rvPeers, num, tx, allVal, rowBase, PV.shift, PV.shiftL, PV.kill, PV.killL, MObj.kill, PV.pl1]
    refine callS_val rfl rfl (.inr rfl) (c_eqPeerS r hrl3) ?_
    simp [gPV, rvGroup, rvPeers, num, tx, allVal, rowBase, PV.shift, PV.shiftL, PV.kill, PV.killL, MObj.kill, PV.pl1]
    refine callX_val rfl rfl (.inl rfl) (g_toGroup g hs) ?_
    simp [gPV, rvGroup, rvPeers, num, tx, allVal, rowBase, PV.shift, PV.shiftL, PV.kill, PV.killL, MObj.kill, PV.pl1]
    refine callS_val rfl rfl (.inr rfl) (g_eqGroup g hs) ?_
    simp [gPV, rvGroup, rvPeers, num, tx, allVal, rowBase, PV.shift, PV.shiftL, PV.kill, PV.killL, MObj.kill, PV.pl1]
    refine rowC rfl rfl rfl rfl hmk rfl ?_
    simp [gPV, rvGroup, rvPeers, num, tx, allVal, rowBase, PV.shift, PV.shiftL, PV.kill, PV.killL, MObj.kill, PV.pl1, hne1, hne2, hz]
    refine callS_val rfl rfl (.inr rfl) (c_eqPeerS r hrl3) ?_
    simp [gPV, rvGroup, rvPeers, num, tx, allVal, rowBase, PV.shift, PV.shiftL, PV.kill, PV.killL, MObj.kill, PV.pl1, hne1, hne2, hz]
    refine rowC rfl rfl rfl rfl hmk2 rfl ?_
    simp [gPV, rvGroup, rvPeers, num, tx, allVal, rowBase, PV.shift, PV.shiftL, PV.kill, PV.killL, MObj.kill, PV.pl1, hne1, hne2, hz]
    refine callS_val rfl rfl (.inr rfl) hhd ?_
    simp [gPV, rvGroup, rvPeers, num, tx, allVal, rowBase, PV.shift, PV.shiftL, PV.kill, PV.killL, MObj.kill, PV.pl1, hne1, hne2, hz]
    refine callS_val rfl rfl (.inl rfl) (g_toGroup g hs) ?_
    simp [gPV, rvGroup, rvPeers, num, tx, allVal, rowBase, PV.shift, PV.shiftL, PV.kill, PV.killL, MObj.kill, PV.pl1]
    refine callS_mk rfl rfl rfl (.inl rfl) hip ?_
    simp [gPV, rvGroup, rvPeers, num, tx, allVal, rowBase, PV.shift, PV.shiftL, PV.kill, PV.killL, MObj.kill, PV.pl1]
    refine callS_val rfl rfl (.inr rfl) (c_eqPeerS r hrl3) ?_
    simp [gPV, rvGroup, rvPeers, num, tx, allVal, rowBase, PV.shift, PV.shiftL, PV.kill, PV.killL, MObj.kill, PV.pl1]
    refine callS_val rfl rfl (.inr rfl) hhd ?_
    simp [gPV, rvGroup, rvPeers, num, tx, allVal, rowBase, PV.shift, PV.shiftL, PV.kill, PV.killL, MObj.kill, PV.pl1, hne1, hne2, hz]

theorem law_KeepPeers_err (l : List LPeer) (g : LGroup) (hl : l.length ≤ 9223372036854775807) (hx : ∀ p ∈ l, p.target.url.length ≤ 9223372036854775807) (hb : bdGroup 9223372036854775807 g) (c : Int) (hc : lkeepC l g = c) (h0 : c ≠ 0) : CallOK Tryz.prog 12 [.val (rvPeers l), .val (rvGroup g)] (.ret (.val (.bool true)) []) [] := by
  refine call_val mixed ok12 rfl (fun _ => rfl) ?_
  unfold ir12
  rw [evalC_intro]
  simp [initSt, avPVs, avPV, avBoxesL, avBoxes, rvPeers, rvGroup, tx, num]
  refine callS_val rfl rfl (.inl rfl) (c_szPeerS l 1048576 (by omega) (by omega) hl hx) ?_
  simp [gPV, rvGroup, rvPeers, num, tx, allVal, rowBase, PV.shift, PV.shiftL, PV.kill, PV.killL, MObj.kill, PV.pl1]
  refine iteP_intro (fun h => ?_) (fun h => ?_)
  · simp
  · obtain ⟨hl2, hx2⟩ := lsz_small (by omega) (by omega) h
    have hle : lsz l 1048576 ≤ 1048576 := lsz_le (by omega)
    have hl3 : l.length < 1099511627776 := by omega
    have hx3 : ∀ p ∈ l, p.target.url.length ≤ 1048576 := fun p hp => by have := hx2 p hp; omega
    generalize lsz l 1048576 = lf at *
    simp [gPV, rvGroup, rvPeers, num, tx, allVal, rowBase, PV.shift, PV.shiftL, PV.kill, PV.killL, MObj.kill, PV.pl1]
    refine callS_val rfl rfl (.inl rfl) (g_szGroup g lf (by omega) (by omega) hb) ?_
    by_cases hz : cut lf (zGroup g) < 0
    · simp [num, hz]
    · have hs : bdGroup 1048576 g := zGroup_bd (by obtain ⟨hz1, _⟩ := cut_small hz (by omega); omega)
      have hsp := c_specKP l g (by omega) hx3 hs
      have hip := i_KP_err l g c hc h0 (by omega) hx3 hs
      rw [hc, if_neg h0] at hsp
      have htl : g.targets.length ≤ 1048576 := hs.2.1
      have hmkp := c_markPeerS l 1 (by omega) (by omega)
      have hmk := g_markGroup g (1 + 6 * l.length) (by omega) hs
      have hne1 : ¬ (((1 + 6 * l.length) + 3 * g.targets.length : Nat) : Int) < 0 := by omega
      generalize (((1 + 6 * l.length) + 3 * g.targets.length : Nat) : Int) = m1 at hmk hne1
      generalize 1 + 6 * l.length = m0 at *
      simp [gPV, rvGroup, rvPeers, num, tx, allVal, rowBase, PV.shift, PV.shiftL, PV.kill, PV.killL, MObj.kill, PV.pl1, hne1, hz]
      refine callX_val rfl rfl (.inl rfl) (c_toPeerS l hl3) ?_
      simp [gPV, rvGroup, rvPeers, num, tx, allVal, rowBase, PV.shift, PV.shiftL, PV.kill, PV.killL, MObj.kill, PV.pl1]
      refine callX_val rfl rfl (.inl rfl) (g_toGroup g hs) ?_
      simp [gPV, rvGroup, rvPeers, num, tx, allVal, rowBase, PV.shift, PV.shiftL, PV.kill, PV.killL, MObj.kill, PV.pl1]
      refine callX_two rfl rfl (.inl rfl) hsp ?_
      simp [gPV, rvGroup, rvPeers, num, tx, allVal, rowBase, PV.shift, PV.shiftL, PV.kill, PV.killL, MObj.kill, PV.pl1]
      refine callS_mk rfl rfl rfl (.inl rfl) (c_toPeerS_own l hl3) ?_
      simp [gPV, rvGroup, rvPeers, num, tx, allVal, rowBase, PV.shift, PV.shiftL, PV.kill, PV.killL, MObj.kill, PV.pl1]
      refine callS_mk rfl rfl rfl (.inl rfl) (g_toGroup_own g hs) ?_
      simp [gPV, rvGroup, rvPeers, num, tx, allVal, rowBase, PV.shift, PV.shiftL, PV.kill, PV.killL, MObj.kill, PV.pl1]
      refine callS_two rfl rfl (.inr (by simp [PV.flat, PV.flat.go, RV.flat, rvPeers, num])) hip ?_
      simp [gPV, rvGroup, rvPeers, num, tx, allVal, rowBase, PV.shift, PV.shiftL, PV.kill, PV.killL, MObj.kill, PV.pl1]
      refine callS_val rfl rfl (.inl rfl) (c_eqPeerS [] (by simp)) ?_
      simp [gPV, rvGroup, rvPeers, num, tx, allVal, rowBase, PV.shift, PV.shiftL, PV.kill, PV.killL, MObj.kill, PV.pl1]
      refine callS_val rfl rfl (.inl rfl) (c_toPeerS l hl3) ?_
      simp [gPV, rvGroup, rvPeers, num, tx, allVal, rowBase, PV.shift, PV.shiftL, PV.kill, PV.killL, MObj.kill, PV.pl1]
      refine callS_val rfl rfl (.inr rfl) (c_eqPeerS l hl3) ?_
      simp [gPV, rvGroup, rvPeers, num, tx, allVal, rowBase, PV.shift, PV.shiftL, PV.kill, PV.killL, MObj.kill, PV.pl1]
      refine callX_val rfl rfl (.inl rfl) (g_toGroup g hs) ?_
      simp [gPV, rvGroup, rvPeers, num, tx, allVal, rowBase, PV.shift, PV.shiftL, PV.kill, PV.killL, MObj.kill, PV.pl1]
      refine callS_val rfl rfl (.inr rfl) (g_eqGroup g hs) ?_
      simp [gPV, rvGroup, rvPeers, num, tx, allVal, rowBase, PV.shift, PV.shiftL, PV.kill, PV.killL, MObj.kill, PV.pl1]
      refine rowC rfl rfl rfl rfl hmkp rfl ?_
      simp [gPV, rvGroup, rvPeers, num, tx, allVal, rowBase, PV.shift, PV.shiftL, PV.kill, PV.killL, MObj.kill, PV.pl1]
      refine rowC rfl rfl rfl rfl hmk rfl ?_
      simp [gPV, rvGroup, rvPeers, num, tx, allVal, rowBase, PV.shift, PV.shiftL, PV.kill, PV.killL, MObj.kill, PV.pl1, hne1, hz]
      refine callS_val rfl rfl (.inl rfl) (c_eqPeerS [] (by simp)) ?_
      simp [gPV, rvGroup, rvPeers, num, tx, allVal, rowBase, PV.shift, PV.shiftL, PV.kill, PV.killL, MObj.kill, PV.pl1, hne1, hz]
      refine callS_val rfl rfl (.inl rfl) (c_markPeerS_nil 1) ?_
      simp [gPV, rvGroup, rvPeers, num, tx, allVal, rowBase, PV.shift, PV.shiftL, PV.kill, PV.killL, MObj.kill, PV.pl1, hne1, hz]
      refine callS_val rfl rfl (.inl rfl) (c_heldPeerS 0 1 (by omega) (by omega)) ?_
      simp [gPV, rvGroup, rvPeers, num, tx, allVal, rowBase, PV.shift, PV.shiftL, PV.kill, PV.killL, MObj.kill, PV.pl1, hne1, hz]
      refine callX_val rfl rfl (.inl rfl) (c_toPeerS l hl3) ?_
      simp [gPV, rvGroup, rvPeers, num, tx, allVal, rowBase, PV.shift, PV.shiftL, PV.kill, PV.killL, MObj.kill, PV.pl1]
      refine callX_val rfl rfl (.inl rfl) (g_toGroup g hs) ?_
      simp [gPV, rvGroup, rvPeers, num, tx, allVal, rowBase, PV.shift, PV.shiftL, PV.kill, PV.killL, MObj.kill, PV.pl1]
      refine callX_two rfl rfl (.inl rfl) hip ?_
      simp [gPV, rvGroup, rvPeers, num, tx, allVal, rowBase, PV.shift, PV.shiftL, PV.kill, PV.killL, MObj.kill, PV.pl1]
      refine callS_val rfl rfl (.inl rfl) (c_eqPeerS [] (by simp)) ?_
      simp [gPV, rvGroup, rvPeers, num, tx, allVal, rowBase, PV.shift, PV.shiftL, PV.kill, PV.killL, MObj.kill, PV.pl1]
      refine callS_val rfl rfl (.inl rfl) (c_heldPeerS 0 1 (by omega) (by omega)) ?_
      simp [gPV, rvGroup, rvPeers, num, tx, allVal, rowBase, PV.shift, PV.shiftL, PV.kill, PV.killL, MObj.kill, PV.pl1]

theorem law_KeepPeers_ok (l : List LPeer) (g : LGroup) (hl : l.length ≤ 9223372036854775807) (hx : ∀ p ∈ l, p.target.url.length ≤ 9223372036854775807) (hb : bdGroup 9223372036854775807 g) (hc : lkeepC l g = 0) : CallOK Tryz.prog 12 [.val (rvPeers l), .val (rvGroup g)] (.ret (.val (.bool true)) []) [] := by
  refine call_val mixed ok12 rfl (fun _ => rfl) ?_
  unfold ir12
  rw [evalC_intro]
  simp [initSt, avPVs, avPV, avBoxesL, avBoxes, rvPeers, rvGroup, tx, num]
  refine callS_val rfl rfl (.inl rfl) (c_szPeerS l 1048576 (by omega) (by omega) hl hx) ?_
  simp [gPV, rvGroup, rvPeers, num, tx, allVal, rowBase, PV.shift, PV.shiftL, PV.kill, PV.killL, MObj.kill, PV.pl1]
  refine iteP_intro (fun h => ?_) (fun h => ?_)
  · simp
  · obtain ⟨hl2, hx2⟩ := lsz_small (by omega) (by omega) h
    have hle : lsz l 1048576 ≤ 1048576 := lsz_le (by omega)
    have hl3 : l.length < 1099511627776 := by omega
    have hx3 : ∀ p ∈ l, p.target.url.length ≤ 1048576 := fun p hp => by have := hx2 p hp; omega
    generalize lsz l 1048576 = lf at *
    simp [gPV, rvGroup, rvPeers, num, tx, allVal, rowBase, PV.shift, PV.shiftL, PV.kill, PV.killL, MObj.kill, PV.pl1]
    refine callS_val rfl rfl (.inl rfl) (g_szGroup g lf (by omega) (by omega) hb) ?_
    by_cases hz : cut lf (zGroup g) < 0
    · simp [num, hz]
    · have hs : bdGroup 1048576 g := zGroup_bd (by obtain ⟨hz1, _⟩ := cut_small hz (by omega); omega)
      have hsp := c_specKP l g (by omega) hx3 hs
      have hl4 : l.length ≤ 4096 := lkeepC_len hc
      have hip := i_KP_ok l g hc hl4 hx3 hs
      have hipv := i_KP_okv l g hc hl4 hx3 hs
      rw [hc, if_pos rfl] at hsp
      have htl : g.targets.length ≤ 1048576 := hs.2.1
      have hmkp := c_markPeerS l 1 (by omega) (by omega)
      have hmk := g_markGroup g (1 + 6 * l.length) (by omega) hs
      obtain ⟨r, hr⟩ : ∃ r, lkeep l g.targets = r := ⟨_, rfl⟩
      have hrl : r.length = g.targets.length := by rw [← hr]; exact lkeep_len _ _
      rw [hr] at hsp hip hipv
      have hmk2 := c_markPeerS r 1 (by omega) (by omega)
      have hhd := c_heldPeerS r.length 1 (by omega) (by omega)
      have hfl := flat_rvPeers r
      have hrl3 : r.length < 1099511627776 := by omega
      have hne2 : ¬ ((1 + 6 * r.length : Nat) : Int) < 0 := by omega
      have hne1 : ¬ (((1 + 6 * l.length) + 3 * g.targets.length : Nat) : Int) < 0 := by omega
      generalize (((1 + 6 * l.length) + 3 * g.targets.length : Nat) : Int) = m1 at hmk hne1
      generalize 1 + 6 * l.length = m0 at *
      generalize ((1 + 6 * r.length : Nat) : Int) = m2 at hmk2 hhd hne2
      simp [gPV, rvGroup, rvPeers, num, tx, allVal, rowBase, PV.shift, PV.shiftL, PV.kill, PV.killL, MObj.kill, PV.pl1, hne1, hne2, hz]
      refine callX_val rfl rfl (.inl rfl) (c_toPeerS l hl3) ?_
      simp [gPV, rvGroup, rvPeers, num, tx, allVal, rowBase, PV.shift, PV.shiftL, PV.kill, PV.killL, MObj.kill, PV.pl1]
      refine callX_val rfl rfl (.inl rfl) (g_toGroup g hs) ?_
      simp [gPV, rvGroup, rvPeers, num, tx, allVal, rowBase, PV.shift, PV.shiftL, PV.kill, PV.killL, MObj.kill, PV.pl1]
      refine callX_two rfl rfl (.inl rfl) hsp ?_
      simp [gPV, rvGroup, rvPeers, num, tx, allVal, rowBase, PV.shift, PV.shiftL, PV.kill, PV.killL, MObj.kill, PV.pl1]
      refine callS_mk rfl rfl rfl (.inl rfl) (c_toPeerS_own l hl3) ?_
      simp [gPV, rvGroup, rvPeers, num, tx, allVal, rowBase, PV.shift, PV.shiftL, PV.kill, PV.killL, MObj.kill, PV.pl1]
      refine callS_mk rfl rfl rfl (.inl rfl) (g_toGroup_own g hs) ?_
      simp [gPV, rvGroup, rvPeers, num, tx, allVal, rowBase, PV.shift, PV.shiftL, PV.kill, PV.killL, MObj.kill, PV.pl1]
      refine callS_mk rfl rfl rfl (.inr ⟨by simp [PV.flat, PV.flat.go, RV.flat, num], hfl⟩) hip ?_
      simp [gPV, rvGroup, rvPeers, num, tx, allVal, rowBase, PV.shift, PV.shiftL, PV.kill, PV.killL, MObj.kill, PV.pl1]
      refine callS_val rfl rfl (.inr rfl) (c_eqPeerS r hrl3) ?_
      simp [gPV, rvGroup, rvPeers, num, tx, allVal, rowBase, PV.shift, PV.shiftL, PV.kill, PV.killL, MObj.kill, PV.pl1]
      refine callS_val rfl rfl (.inl rfl) (c_toPeerS l hl3) ?_
      simp [gPV, rvGroup, rvPeers, num, tx, allVal, rowBase, PV.shift, PV.shiftL, PV.kill, PV.killL, MObj.kill, PV.pl1]
      refine callS_val rfl rfl (.inr rfl) (c_eqPeerS l hl3) ?_
      simp [gPV, rvGroup, rvPeers, num, tx, allVal, rowBase, PV.shift, PV.shiftL, PV.kill, PV.killL, MObj.kill, PV.pl1]
      refine callX_val rfl rfl (.inl rfl) (g_toGroup g hs) ?_
      simp [gPV, rvGroup, rvPeers, num, tx, allVal, rowBase, PV.shift, PV.shiftL, PV.kill, PV.killL, MObj.kill, PV.pl1]
      refine callS_val rfl rfl (.inr rfl) (g_eqGroup g hs) ?_
      simp [gPV, rvGroup, rvPeers, num, tx, allVal, rowBase, PV.shift, PV.shiftL, PV.kill, PV.killL, MObj.kill, PV.pl1]
      refine rowC rfl rfl rfl rfl hmkp rfl ?_
      simp [gPV, rvGroup, rvPeers, num, tx, allVal, rowBase, PV.shift, PV.shiftL, PV.kill, PV.killL, MObj.kill, PV.pl1]
      refine rowC rfl rfl rfl rfl hmk rfl ?_
      simp [gPV, rvGroup, rvPeers, num, tx, allVal, rowBase, PV.shift, PV.shiftL, PV.kill, PV.killL, MObj.kill, PV.pl1, hne1, hne2, hz]
      refine callS_val rfl rfl (.inr rfl) (c_eqPeerS r hrl3) ?_
      simp [gPV, rvGroup, rvPeers, num, tx, allVal, rowBase, PV.shift, PV.shiftL, PV.kill, PV.killL, MObj.kill, PV.pl1, hne1, hne2, hz]
      refine rowC rfl rfl rfl rfl hmk2 rfl ?_
      simp [gPV, rvGroup, rvPeers, num, tx, allVal, rowBase, PV.shift, PV.shiftL, PV.kill, PV.killL, MObj.kill, PV.pl1, hne1, hne2, hz]
      refine callS_val rfl rfl (.inr rfl) hhd ?_
      simp [gPV, rvGroup, rvPeers, num, tx, allVal, rowBase, PV.shift, PV.shiftL, PV.kill, PV.killL, MObj.kill, PV.pl1, hne1, hne2, hz]
      refine callX_val rfl rfl (.inl rfl) (c_toPeerS l hl3) ?_
      simp [gPV, rvGroup, rvPeers, num, tx, allVal, rowBase, PV.shift, PV.shiftL, PV.kill, PV.killL, MObj.kill, PV.pl1]
      refine callX_val rfl rfl (.inl rfl) (g_toGroup g hs) ?_
      simp [gPV, rvGroup, rvPeers, num, tx, allVal, rowBase, PV.shift, PV.shiftL, PV.kill, PV.killL, MObj.kill, PV.pl1]
      refine callX_two rfl rfl (.inl rfl) hipv ?_
      simp [gPV, rvGroup, rvPeers, num, tx, allVal, rowBase, PV.shift, PV.shiftL, PV.kill, PV.killL, MObj.kill, PV.pl1]
      refine callS_val rfl rfl (.inr rfl) (c_eqPeerS r hrl3) ?_
      simp [gPV, rvGroup, rvPeers, num, tx, allVal, rowBase, PV.shift, PV.shiftL, PV.kill, PV.killL, MObj.kill, PV.pl1]
      refine callS_val rfl rfl (.inr rfl) hhd ?_
      simp [gPV, rvGroup, rvPeers, num, tx, allVal, rowBase, PV.shift, PV.shiftL, PV.kill, PV.killL, MObj.kill, PV.pl1, hne1, hne2, hz]

theorem law_PeersOf (g : LGroup) (hb : bdGroup 9223372036854775807 g) : CallOK Tryz.prog 10 [.val (rvGroup g)] (.ret (.val (.bool true)) []) [] := by
  by_cases h : lkeepC [] g = 0
  · exact law_PeersOf_ok g hb h
  · exact law_PeersOf_err g hb _ rfl h
theorem law_KeepPeers (l : List LPeer) (g : LGroup) (hl : l.length ≤ 9223372036854775807) (hx : ∀ p ∈ l, p.target.url.length ≤ 9223372036854775807) (hb : bdGroup 9223372036854775807 g) : CallOK Tryz.prog 12 [.val (rvPeers l), .val (rvGroup g)] (.ret (.val (.bool true)) []) [] := by
  by_cases h : lkeepC l g = 0
  · exact law_KeepPeers_ok l g hl hx hb h
  · exact law_KeepPeers_err l g hl hx hb _ rfl h
end Go.Proofs
end
