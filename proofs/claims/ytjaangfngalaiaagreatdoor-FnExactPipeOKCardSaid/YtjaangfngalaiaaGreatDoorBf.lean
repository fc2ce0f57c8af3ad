/- Bf: merged out of IRo, IRz. -/
import Derived.Test.YtjaangfngalaiaaGreatDoorPWv
import Derived.Test.YtjaangfngalaiaaGreatDoorChecked
import Derived.KernelRfl

/- Functions of the seat as data. MADE BY PROGRAM (print_ir.py). -/
section
set_option maxRecDepth 100000
namespace Go.Proofs
open Go.PW

/-- loop.example/g00779/laws.szIntS -/
def ir97 : PC :=
 .seq (
 .reg [
   ⟨some 4, .mov (.k (.val (.int .i64 0))), none⟩]) (
 .seq (
 .reg [
   ⟨some 5, .mov (.t 1), none⟩,
   ⟨some 6, .mov (.t 0), none⟩,
   ⟨some 7, .len (.t 6), none⟩,
   ⟨some 8, .bin .sub (.t 5) (.t 7), none⟩,
   ⟨some 1, .mov (.t 8), none⟩]) (
 .seq (
 .seq (
 .reg [
   ⟨some 9, .mov (.t 1), none⟩,
   ⟨some 10, .bin .lss (.t 9) (.k (.val (.int .i64 0))), none⟩]) (
 .cond (.t 10) (
  .seq (
  .reg [
    ⟨some 4, .mov (.k (.val (.int .i64 (-1)))), none⟩]) (
  .ret)) (
  .skip))) (
 .seq (
 .reg [
   ⟨some 11, .mov (.t 1), none⟩,
   ⟨some 4, .mov (.t 11), none⟩]) (
 .ret))))
theorem ok97 : chkFn Tryz.prog 97 ir97 2 [.t 4] = true := by kernel_rfl

/-- loop.example/g00779/laws.toIntS -/
def ir110 : PC :=
 .seq (
 .reg [
   ⟨some 2, .mov (.k (.emp 1)), none⟩]) (
 .seq (
 .reg [
   ⟨some 5, .mov (.t 0), none⟩,
   ⟨some 6, .len (.t 5), none⟩,
   ⟨some 7, .mks 3 1 8 false [.val (.int .i64 0)] (.t 6), none⟩,
   ⟨some 3, .mov (.t 7), none⟩]) (
 .seq (
 .seq (
 .reg [
   ⟨some 4, .mov (.k (.val (.int .i64 0))), none⟩]) (
 .block 0 (
  .loop (.ghost (
   .seq (
   .seq (
   .reg [
     ⟨some 8, .mov (.t 4), none⟩,
     ⟨some 9, .mov (.t 0), none⟩,
     ⟨some 10, .len (.t 9), none⟩,
     ⟨some 11, .bin .lss (.t 8) (.t 10), none⟩]) (
   .cond (.t 11) (
    .skip) (
    .exit 0))) (
   .seq (
   .block 1 (
    .reg [
      ⟨some 14, .mov (.t 3), none⟩,
      ⟨some 15, .mov (.t 4), none⟩,
      ⟨some 16, .mov (.t 0), none⟩,
      ⟨some 17, .mov (.t 4), none⟩,
      ⟨some 18, .iaddr 1 (.t 16) (.t 17), none⟩,
      ⟨some 19, .load false 1 (.t 18), none⟩,
      ⟨some 20, .iaddr 1 (.t 14) (.t 15), none⟩,
      ⟨none, .store 1 (.t 20) (.t 19), none⟩])) (
   .reg [
     ⟨some 12, .mov (.t 4), none⟩,
     ⟨some 13, .bin .add (.t 12) (.k (.val (.int .i64 1))), none⟩,
     ⟨some 4, .mov (.t 13), none⟩]))))))) (
 .seq (
 .reg [
   ⟨some 21, .mov (.t 3), none⟩,
   ⟨some 2, .mov (.t 21), none⟩]) (
 .ret))))
theorem ok110 : chkFn Tryz.prog 110 ir110 1 [.t 2] = true := by kernel_rfl

/-- loop.example/g00779/laws.eqIntS -/
def ir131 : PC :=
 .seq (
 .reg [
   ⟨some 4, .mov (.k (.val (.bool false))), none⟩]) (
 .seq (
 .seq (
 .reg [
   ⟨some 6, .mov (.t 0), none⟩,
   ⟨some 7, .len (.t 6), none⟩,
   ⟨some 8, .mov (.t 1), none⟩,
   ⟨some 9, .len (.t 8), none⟩,
   ⟨some 10, .bin .neq (.t 7) (.t 9), none⟩]) (
 .cond (.t 10) (
  .seq (
  .reg [
    ⟨some 4, .mov (.k (.val (.bool false))), none⟩]) (
  .ret)) (
  .skip))) (
 .seq (
 .seq (
 .reg [
   ⟨some 5, .mov (.k (.val (.int .i64 0))), none⟩]) (
 .block 0 (
  .loop (.ghost (
   .seq (
   .seq (
   .reg [
     ⟨some 11, .mov (.t 5), none⟩,
     ⟨some 12, .mov (.t 0), none⟩,
     ⟨some 13, .len (.t 12), none⟩,
     ⟨some 14, .bin .lss (.t 11) (.t 13), none⟩]) (
   .cond (.t 14) (
    .skip) (
    .exit 0))) (
   .seq (
   .block 1 (
    .seq (
    .draw [
      ⟨some 17, .mov (.t 0), none⟩,
      ⟨some 18, .mov (.t 5), none⟩,
      ⟨some 19, .iaddr 1 (.t 17) (.t 18), none⟩,
      ⟨some 20, .load false 1 (.t 19), none⟩,
      ⟨some 21, .mov (.t 1), none⟩,
      ⟨some 22, .mov (.t 5), none⟩,
      ⟨some 23, .iaddr 1 (.t 21) (.t 22), none⟩,
      ⟨some 24, .load false 1 (.t 23), none⟩] [
      ⟨some 25, .bin .neq (.t 20) (.t 24), none⟩]) (
    .cond (.t 25) (
     .seq (
     .reg [
       ⟨some 4, .mov (.k (.val (.bool false))), none⟩]) (
     .ret)) (
     .skip)))) (
   .reg [
     ⟨some 15, .mov (.t 5), none⟩,
     ⟨some 16, .bin .add (.t 15) (.k (.val (.int .i64 1))), none⟩,
     ⟨some 5, .mov (.t 16), none⟩]))))))) (
 .seq (
 .reg [
   ⟨some 4, .mov (.k (.val (.bool true))), none⟩]) (
 .ret))))
theorem ok131 : chkFn Tryz.prog 131 ir131 2 [.t 4] = true := by kernel_rfl

/-- loop.example/g00779/laws.szReport -/
def ir165 : PC :=
 .seq (
 .reg [
   ⟨some 2, .box (.t 0), none⟩,
   ⟨some 4, .mov (.k (.val (.int .i64 0))), none⟩]) (
 .seq (
 .reg [
   ⟨some 5, .mov (.t 1), none⟩,
   ⟨some 6, .faddr 3 (.t 2), none⟩,
   ⟨some 7, .load false 1 (.t 6), none⟩,
   ⟨some 8, .lens (.t 7), none⟩,
   ⟨some 9, .bin .sub (.t 5) (.t 8), none⟩,
   ⟨some 1, .mov (.t 9), none⟩]) (
 .seq (
 .seq (
 .reg [
   ⟨some 10, .mov (.t 1), none⟩,
   ⟨some 11, .bin .lss (.t 10) (.k (.val (.int .i64 0))), none⟩]) (
 .cond (.t 11) (
  .seq (
  .reg [
    ⟨some 4, .mov (.k (.val (.int .i64 (-1)))), none⟩]) (
  .ret)) (
  .skip))) (
 .seq (
 .reg [
   ⟨some 12, .mov (.t 1), none⟩,
   ⟨some 4, .mov (.t 12), none⟩]) (
 .ret))))
theorem ok165 : chkFn Tryz.prog 165 ir165 2 [.t 4] = true := by kernel_rfl

/-- loop.example/g00779/laws.szReportS -/
def ir137 : PC :=
 .seq (
 .reg [
   ⟨some 4, .mov (.k (.val (.int .i64 0))), none⟩]) (
 .seq (
 .reg [
   ⟨some 6, .mov (.t 1), none⟩,
   ⟨some 7, .mov (.t 0), none⟩,
   ⟨some 8, .len (.t 7), none⟩,
   ⟨some 9, .bin .sub (.t 6) (.t 8), none⟩,
   ⟨some 1, .mov (.t 9), none⟩]) (
 .seq (
 .seq (
 .reg [
   ⟨some 10, .mov (.t 1), none⟩,
   ⟨some 11, .bin .lss (.t 10) (.k (.val (.int .i64 0))), none⟩]) (
 .cond (.t 11) (
  .seq (
  .reg [
    ⟨some 4, .mov (.k (.val (.int .i64 (-1)))), none⟩]) (
  .ret)) (
  .skip))) (
 .seq (
 .seq (
 .reg [
   ⟨some 5, .mov (.k (.val (.int .i64 0))), none⟩]) (
 .block 0 (
  .loop (.ghost (
   .seq (
   .seq (
   .reg [
     ⟨some 12, .mov (.t 5), none⟩,
     ⟨some 13, .mov (.t 0), none⟩,
     ⟨some 14, .len (.t 13), none⟩,
     ⟨some 15, .bin .lss (.t 12) (.t 14), none⟩]) (
   .cond (.t 15) (
    .skip) (
    .exit 0))) (
   .seq (
   .block 1 (
    .seq (
    .reg [
      ⟨some 18, .mov (.t 0), none⟩,
      ⟨some 19, .mov (.t 5), none⟩,
      ⟨some 20, .iaddr 4 (.t 18) (.t 19), none⟩,
      ⟨some 21, .load true 4 (.t 20), none⟩,
      ⟨some 22, .mov (.t 1), none⟩,
      ⟨some 23, .call 165 [.t 21, .t 22], none⟩,
      ⟨some 1, .mov (.t 23), none⟩]) (
    .seq (
    .reg [
      ⟨some 24, .mov (.t 1), none⟩,
      ⟨some 25, .bin .lss (.t 24) (.k (.val (.int .i64 0))), none⟩]) (
    .cond (.t 25) (
     .seq (
     .reg [
       ⟨some 4, .mov (.k (.val (.int .i64 (-1)))), none⟩]) (
     .ret)) (
     .skip))))) (
   .reg [
     ⟨some 16, .mov (.t 5), none⟩,
     ⟨some 17, .bin .add (.t 16) (.k (.val (.int .i64 1))), none⟩,
     ⟨some 5, .mov (.t 17), none⟩]))))))) (
 .seq (
 .reg [
   ⟨some 26, .mov (.t 1), none⟩,
   ⟨some 4, .mov (.t 26), none⟩]) (
 .ret)))))
theorem ok137 : chkFn Tryz.prog 137 ir137 2 [.t 4] = true := by kernel_rfl

/-- loop.example/g00779/laws.toReport -/
def ir167 : PC :=
 .seq (
 .reg [
   ⟨some 1, .box (.t 0), none⟩,
   ⟨some 2, .alloc [.val (.int .i64 0), .val (.int .i64 0), .val (.int .i64 0), .val (.str ⟨#[]⟩)], none⟩]) (
 .seq (
 .reg [
   ⟨some 3, .alloc [.val (.int .i64 0), .val (.int .i64 0), .val (.int .i64 0), .val (.str ⟨#[]⟩)], none⟩]) (
 .seq (
 .reg [
   ⟨some 4, .faddr 0 (.t 1), none⟩,
   ⟨some 5, .load false 1 (.t 4), none⟩,
   ⟨some 6, .faddr 0 (.t 3), none⟩,
   ⟨none, .store 1 (.t 6) (.t 5), none⟩]) (
 .seq (
 .reg [
   ⟨some 7, .faddr 1 (.t 1), none⟩,
   ⟨some 8, .load false 1 (.t 7), none⟩,
   ⟨some 9, .faddr 1 (.t 3), none⟩,
   ⟨none, .store 1 (.t 9) (.t 8), none⟩]) (
 .seq (
 .reg [
   ⟨some 10, .faddr 2 (.t 1), none⟩,
   ⟨some 11, .load false 1 (.t 10), none⟩,
   ⟨some 12, .faddr 2 (.t 3), none⟩,
   ⟨none, .store 1 (.t 12) (.t 11), none⟩]) (
 .seq (
 .reg [
   ⟨some 13, .faddr 3 (.t 1), none⟩,
   ⟨some 14, .load false 1 (.t 13), none⟩,
   ⟨some 15, .faddr 3 (.t 3), none⟩,
   ⟨none, .store 1 (.t 15) (.t 14), none⟩]) (
 .seq (
 .reg [
   ⟨some 16, .load true 4 (.t 3), none⟩,
   ⟨none, .store 4 (.t 2) (.t 16), none⟩]) (
 .ret)))))))
theorem ok167 : chkFn Tryz.prog 167 ir167 1 [.c 2 true 4] = true := by kernel_rfl

/-- loop.example/g00779/laws.toReportS -/
def ir147 : PC :=
 .seq (
 .reg [
   ⟨some 2, .mov (.k (.emp 4)), none⟩]) (
 .seq (
 .reg [
   ⟨some 5, .mov (.t 0), none⟩,
   ⟨some 6, .len (.t 5), none⟩,
   ⟨some 7, .mks 130 4 40 true [.val (.int .i64 0), .val (.int .i64 0), .val (.int .i64 0), .val (.str ⟨#[]⟩)] (.t 6), none⟩,
   ⟨some 3, .mov (.t 7), none⟩]) (
 .seq (
 .seq (
 .reg [
   ⟨some 4, .mov (.k (.val (.int .i64 0))), none⟩]) (
 .block 0 (
  .loop (.ghost (
   .seq (
   .seq (
   .reg [
     ⟨some 8, .mov (.t 4), none⟩,
     ⟨some 9, .mov (.t 0), none⟩,
     ⟨some 10, .len (.t 9), none⟩,
     ⟨some 11, .bin .lss (.t 8) (.t 10), none⟩]) (
   .cond (.t 11) (
    .skip) (
    .exit 0))) (
   .seq (
   .block 1 (
    .reg [
      ⟨some 14, .mov (.t 3), none⟩,
      ⟨some 15, .mov (.t 4), none⟩,
      ⟨some 16, .mov (.t 0), none⟩,
      ⟨some 17, .mov (.t 4), none⟩,
      ⟨some 18, .iaddr 4 (.t 16) (.t 17), none⟩,
      ⟨some 19, .load true 4 (.t 18), none⟩,
      ⟨some 20, .call 167 [.t 19], none⟩,
      ⟨some 21, .iaddr 4 (.t 14) (.t 15), none⟩,
      ⟨none, .store 4 (.t 21) (.t 20), none⟩])) (
   .reg [
     ⟨some 12, .mov (.t 4), none⟩,
     ⟨some 13, .bin .add (.t 12) (.k (.val (.int .i64 1))), none⟩,
     ⟨some 4, .mov (.t 13), none⟩]))))))) (
 .seq (
 .reg [
   ⟨some 22, .mov (.t 3), none⟩,
   ⟨some 2, .mov (.t 22), none⟩]) (
 .ret))))
theorem ok147 : chkFn Tryz.prog 147 ir147 1 [.t 2] = true := by kernel_rfl

/-- loop.example/g00779/laws.eqReport -/
def ir176 : PC :=
 .seq (
 .reg [
   ⟨some 2, .box (.t 0), none⟩,
   ⟨some 3, .box (.t 1), none⟩,
   ⟨some 4, .mov (.k (.val (.bool false))), none⟩]) (
 .seq (
 .seq (
 .reg [
   ⟨some 5, .faddr 0 (.t 2), none⟩,
   ⟨some 6, .load false 1 (.t 5), none⟩,
   ⟨some 7, .faddr 0 (.t 3), none⟩,
   ⟨some 8, .load false 1 (.t 7), none⟩,
   ⟨some 9, .bin .neq (.t 6) (.t 8), none⟩]) (
 .cond (.t 9) (
  .seq (
  .reg [
    ⟨some 4, .mov (.k (.val (.bool false))), none⟩]) (
  .ret)) (
  .skip))) (
 .seq (
 .seq (
 .reg [
   ⟨some 10, .faddr 1 (.t 2), none⟩,
   ⟨some 11, .load false 1 (.t 10), none⟩,
   ⟨some 12, .faddr 1 (.t 3), none⟩,
   ⟨some 13, .load false 1 (.t 12), none⟩,
   ⟨some 14, .bin .neq (.t 11) (.t 13), none⟩]) (
 .cond (.t 14) (
  .seq (
  .reg [
    ⟨some 4, .mov (.k (.val (.bool false))), none⟩]) (
  .ret)) (
  .skip))) (
 .seq (
 .seq (
 .reg [
   ⟨some 15, .faddr 2 (.t 2), none⟩,
   ⟨some 16, .load false 1 (.t 15), none⟩,
   ⟨some 17, .faddr 2 (.t 3), none⟩,
   ⟨some 18, .load false 1 (.t 17), none⟩,
   ⟨some 19, .bin .neq (.t 16) (.t 18), none⟩]) (
 .cond (.t 19) (
  .seq (
  .reg [
    ⟨some 4, .mov (.k (.val (.bool false))), none⟩]) (
  .ret)) (
  .skip))) (
 .seq (
 .seq (
 .reg [
   ⟨some 20, .faddr 3 (.t 2), none⟩,
   ⟨some 21, .load false 1 (.t 20), none⟩,
   ⟨some 22, .faddr 3 (.t 3), none⟩,
   ⟨some 23, .load false 1 (.t 22), none⟩,
   ⟨some 24, .bin .neq (.t 21) (.t 23), none⟩]) (
 .cond (.t 24) (
  .seq (
  .reg [
    ⟨some 4, .mov (.k (.val (.bool false))), none⟩]) (
  .ret)) (
  .skip))) (
 .seq (
 .reg [
   ⟨some 4, .mov (.k (.val (.bool true))), none⟩]) (
 .ret))))))
theorem ok176 : chkFn Tryz.prog 176 ir176 2 [.t 4] = true := by kernel_rfl

/-- loop.example/g00779/laws.eqReportS -/
def ir160 : PC :=
 .seq (
 .reg [
   ⟨some 4, .mov (.k (.val (.bool false))), none⟩]) (
 .seq (
 .seq (
 .reg [
   ⟨some 6, .mov (.t 0), none⟩,
   ⟨some 7, .len (.t 6), none⟩,
   ⟨some 8, .mov (.t 1), none⟩,
   ⟨some 9, .len (.t 8), none⟩,
   ⟨some 10, .bin .neq (.t 7) (.t 9), none⟩]) (
 .cond (.t 10) (
  .seq (
  .reg [
    ⟨some 4, .mov (.k (.val (.bool false))), none⟩]) (
  .ret)) (
  .skip))) (
 .seq (
 .seq (
 .reg [
   ⟨some 5, .mov (.k (.val (.int .i64 0))), none⟩]) (
 .block 0 (
  .loop (.ghost (
   .seq (
   .seq (
   .reg [
     ⟨some 11, .mov (.t 5), none⟩,
     ⟨some 12, .mov (.t 0), none⟩,
     ⟨some 13, .len (.t 12), none⟩,
     ⟨some 14, .bin .lss (.t 11) (.t 13), none⟩]) (
   .cond (.t 14) (
    .skip) (
    .exit 0))) (
   .seq (
   .block 1 (
    .seq (
    .draw [
      ⟨some 17, .mov (.t 0), none⟩,
      ⟨some 18, .mov (.t 5), none⟩,
      ⟨some 19, .iaddr 4 (.t 17) (.t 18), none⟩,
      ⟨some 20, .load true 4 (.t 19), none⟩,
      ⟨some 21, .mov (.t 1), none⟩,
      ⟨some 22, .mov (.t 5), none⟩,
      ⟨some 23, .iaddr 4 (.t 21) (.t 22), none⟩,
      ⟨some 24, .load true 4 (.t 23), none⟩] [
      ⟨some 25, .call 176 [.t 20, .t 24], none⟩,
      ⟨some 26, .un .not (.t 25), none⟩]) (
    .cond (.t 26) (
     .seq (
     .reg [
       ⟨some 4, .mov (.k (.val (.bool false))), none⟩]) (
     .ret)) (
     .skip)))) (
   .reg [
     ⟨some 15, .mov (.t 5), none⟩,
     ⟨some 16, .bin .add (.t 15) (.k (.val (.int .i64 1))), none⟩,
     ⟨some 5, .mov (.t 16), none⟩]))))))) (
 .seq (
 .reg [
   ⟨some 4, .mov (.k (.val (.bool true))), none⟩]) (
 .ret))))
theorem ok160 : chkFn Tryz.prog 160 ir160 2 [.t 4] = true := by kernel_rfl

/-- loop.example/g00779/laws.szQueue -/
def ir95 : PC :=
 .seq (
 .reg [
   ⟨some 2, .box (.t 0), none⟩,
   ⟨some 4, .mov (.k (.val (.int .i64 0))), none⟩]) (
 .seq (
 .reg [
   ⟨some 5, .faddr 0 (.t 2), none⟩,
   ⟨some 6, .load false 1 (.t 5), none⟩,
   ⟨some 7, .mov (.t 1), none⟩,
   ⟨some 8, .call 137 [.t 6, .t 7], none⟩,
   ⟨some 1, .mov (.t 8), none⟩]) (
 .seq (
 .seq (
 .reg [
   ⟨some 9, .mov (.t 1), none⟩,
   ⟨some 10, .bin .lss (.t 9) (.k (.val (.int .i64 0))), none⟩]) (
 .cond (.t 10) (
  .seq (
  .reg [
    ⟨some 4, .mov (.k (.val (.int .i64 (-1)))), none⟩]) (
  .ret)) (
  .skip))) (
 .seq (
 .reg [
   ⟨some 11, .faddr 1 (.t 2), none⟩,
   ⟨some 12, .load false 1 (.t 11), none⟩,
   ⟨some 13, .mov (.t 1), none⟩,
   ⟨some 14, .call 52 [.t 12, .t 13], none⟩,
   ⟨some 1, .mov (.t 14), none⟩]) (
 .seq (
 .seq (
 .reg [
   ⟨some 15, .mov (.t 1), none⟩,
   ⟨some 16, .bin .lss (.t 15) (.k (.val (.int .i64 0))), none⟩]) (
 .cond (.t 16) (
  .seq (
  .reg [
    ⟨some 4, .mov (.k (.val (.int .i64 (-1)))), none⟩]) (
  .ret)) (
  .skip))) (
 .seq (
 .reg [
   ⟨some 17, .mov (.t 1), none⟩,
   ⟨some 4, .mov (.t 17), none⟩]) (
 .ret))))))
theorem ok95 : chkFn Tryz.prog 95 ir95 2 [.t 4] = true := by kernel_rfl

/-- loop.example/g00779/laws.toQueue -/
def ir108 : PC :=
 .seq (
 .reg [
   ⟨some 1, .box (.t 0), none⟩,
   ⟨some 2, .alloc [.emp 4, .emp 1], none⟩]) (
 .seq (
 .reg [
   ⟨some 3, .alloc [.emp 4, .emp 1], none⟩]) (
 .seq (
 .reg [
   ⟨some 4, .faddr 0 (.t 1), none⟩,
   ⟨some 5, .load false 1 (.t 4), none⟩,
   ⟨some 6, .call 147 [.t 5], none⟩,
   ⟨some 7, .faddr 0 (.t 3), none⟩,
   ⟨none, .store 1 (.t 7) (.t 6), none⟩]) (
 .seq (
 .reg [
   ⟨some 8, .faddr 1 (.t 1), none⟩,
   ⟨some 9, .load false 1 (.t 8), none⟩,
   ⟨some 10, .call 60 [.t 9], none⟩,
   ⟨some 11, .faddr 1 (.t 3), none⟩,
   ⟨none, .store 1 (.t 11) (.t 10), none⟩]) (
 .seq (
 .reg [
   ⟨some 12, .load true 2 (.t 3), none⟩,
   ⟨none, .store 2 (.t 2) (.t 12), none⟩]) (
 .ret)))))
theorem ok108 : chkFn Tryz.prog 108 ir108 1 [.c 2 true 2] = true := by kernel_rfl

/-- loop.example/g00779/laws.eqQueue -/
def ir129 : PC :=
 .seq (
 .reg [
   ⟨some 2, .box (.t 0), none⟩,
   ⟨some 3, .box (.t 1), none⟩,
   ⟨some 4, .mov (.k (.val (.bool false))), none⟩]) (
 .seq (
 .seq (
 .reg [
   ⟨some 5, .faddr 0 (.t 2), none⟩,
   ⟨some 6, .load false 1 (.t 5), none⟩,
   ⟨some 7, .faddr 0 (.t 3), none⟩,
   ⟨some 8, .load false 1 (.t 7), none⟩,
   ⟨some 9, .call 160 [.t 6, .t 8], none⟩,
   ⟨some 10, .un .not (.t 9), none⟩]) (
 .cond (.t 10) (
  .seq (
  .reg [
    ⟨some 4, .mov (.k (.val (.bool false))), none⟩]) (
  .ret)) (
  .skip))) (
 .seq (
 .seq (
 .reg [
   ⟨some 11, .faddr 1 (.t 2), none⟩,
   ⟨some 12, .load false 1 (.t 11), none⟩,
   ⟨some 13, .faddr 1 (.t 3), none⟩,
   ⟨some 14, .load false 1 (.t 13), none⟩,
   ⟨some 15, .call 82 [.t 12, .t 14], none⟩,
   ⟨some 16, .un .not (.t 15), none⟩]) (
 .cond (.t 16) (
  .seq (
  .reg [
    ⟨some 4, .mov (.k (.val (.bool false))), none⟩]) (
  .ret)) (
  .skip))) (
 .seq (
 .reg [
   ⟨some 4, .mov (.k (.val (.bool true))), none⟩]) (
 .ret))))
theorem ok129 : chkFn Tryz.prog 129 ir129 2 [.t 4] = true := by kernel_rfl

/-- loop.example/g00779/laws.szChannel -/
def ir51 : PC :=
 .seq (
 .reg [
   ⟨some 2, .box (.t 0), none⟩,
   ⟨some 4, .mov (.k (.val (.int .i64 0))), none⟩]) (
 .seq (
 .reg [
   ⟨some 5, .faddr 0 (.t 2), none⟩,
   ⟨some 6, .load true 3 (.t 5), none⟩,
   ⟨some 7, .mov (.t 1), none⟩,
   ⟨some 8, .call 93 [.t 6, .t 7], none⟩,
   ⟨some 1, .mov (.t 8), none⟩]) (
 .seq (
 .seq (
 .reg [
   ⟨some 9, .mov (.t 1), none⟩,
   ⟨some 10, .bin .lss (.t 9) (.k (.val (.int .i64 0))), none⟩]) (
 .cond (.t 10) (
  .seq (
  .reg [
    ⟨some 4, .mov (.k (.val (.int .i64 (-1)))), none⟩]) (
  .ret)) (
  .skip))) (
 .seq (
 .reg [
   ⟨some 11, .faddr 3 (.t 2), none⟩,
   ⟨some 12, .load false 1 (.t 11), none⟩,
   ⟨some 13, .mov (.t 1), none⟩,
   ⟨some 14, .call 94 [.t 12, .t 13], none⟩,
   ⟨some 1, .mov (.t 14), none⟩]) (
 .seq (
 .seq (
 .reg [
   ⟨some 15, .mov (.t 1), none⟩,
   ⟨some 16, .bin .lss (.t 15) (.k (.val (.int .i64 0))), none⟩]) (
 .cond (.t 16) (
  .seq (
  .reg [
    ⟨some 4, .mov (.k (.val (.int .i64 (-1)))), none⟩]) (
  .ret)) (
  .skip))) (
 .seq (
 .reg [
   ⟨some 17, .faddr 4 (.t 2), none⟩,
   ⟨some 18, .load true 2 (.t 17), none⟩,
   ⟨some 19, .mov (.t 1), none⟩,
   ⟨some 20, .call 95 [.t 18, .t 19], none⟩,
   ⟨some 1, .mov (.t 20), none⟩]) (
 .seq (
 .seq (
 .reg [
   ⟨some 21, .mov (.t 1), none⟩,
   ⟨some 22, .bin .lss (.t 21) (.k (.val (.int .i64 0))), none⟩]) (
 .cond (.t 22) (
  .seq (
  .reg [
    ⟨some 4, .mov (.k (.val (.int .i64 (-1)))), none⟩]) (
  .ret)) (
  .skip))) (
 .seq (
 .reg [
   ⟨some 23, .mov (.t 1), none⟩,
   ⟨some 4, .mov (.t 23), none⟩]) (
 .ret))))))))
theorem ok51 : chkFn Tryz.prog 51 ir51 2 [.t 4] = true := by kernel_rfl

/-- loop.example/g00779/laws.szChannelS -/
def ir18 : PC :=
 .seq (
 .reg [
   ⟨some 4, .mov (.k (.val (.int .i64 0))), none⟩]) (
 .seq (
 .reg [
   ⟨some 6, .mov (.t 1), none⟩,
   ⟨some 7, .mov (.t 0), none⟩,
   ⟨some 8, .len (.t 7), none⟩,
   ⟨some 9, .bin .sub (.t 6) (.t 8), none⟩,
   ⟨some 1, .mov (.t 9), none⟩]) (
 .seq (
 .seq (
 .reg [
   ⟨some 10, .mov (.t 1), none⟩,
   ⟨some 11, .bin .lss (.t 10) (.k (.val (.int .i64 0))), none⟩]) (
 .cond (.t 11) (
  .seq (
  .reg [
    ⟨some 4, .mov (.k (.val (.int .i64 (-1)))), none⟩]) (
  .ret)) (
  .skip))) (
 .seq (
 .seq (
 .reg [
   ⟨some 5, .mov (.k (.val (.int .i64 0))), none⟩]) (
 .block 0 (
  .loop (.ghost (
   .seq (
   .seq (
   .reg [
     ⟨some 12, .mov (.t 5), none⟩,
     ⟨some 13, .mov (.t 0), none⟩,
     ⟨some 14, .len (.t 13), none⟩,
     ⟨some 15, .bin .lss (.t 12) (.t 14), none⟩]) (
   .cond (.t 15) (
    .skip) (
    .exit 0))) (
   .seq (
   .block 1 (
    .seq (
    .reg [
      ⟨some 18, .mov (.t 0), none⟩,
      ⟨some 19, .mov (.t 5), none⟩,
      ⟨some 20, .iaddr 6 (.t 18) (.t 19), none⟩,
      ⟨some 21, .load true 6 (.t 20), none⟩,
      ⟨some 22, .mov (.t 1), none⟩,
      ⟨some 23, .call 51 [.t 21, .t 22], none⟩,
      ⟨some 1, .mov (.t 23), none⟩]) (
    .seq (
    .reg [
      ⟨some 24, .mov (.t 1), none⟩,
      ⟨some 25, .bin .lss (.t 24) (.k (.val (.int .i64 0))), none⟩]) (
    .cond (.t 25) (
     .seq (
     .reg [
       ⟨some 4, .mov (.k (.val (.int .i64 (-1)))), none⟩]) (
     .ret)) (
     .skip))))) (
   .reg [
     ⟨some 16, .mov (.t 5), none⟩,
     ⟨some 17, .bin .add (.t 16) (.k (.val (.int .i64 1))), none⟩,
     ⟨some 5, .mov (.t 17), none⟩]))))))) (
 .seq (
 .reg [
   ⟨some 26, .mov (.t 1), none⟩,
   ⟨some 4, .mov (.t 26), none⟩]) (
 .ret)))))
theorem ok18 : chkFn Tryz.prog 18 ir18 2 [.t 4] = true := by kernel_rfl

/-- loop.example/g00779/laws.toChannel -/
def ir59 : PC :=
 .seq (
 .reg [
   ⟨some 1, .box (.t 0), none⟩,
   ⟨some 2, .alloc [.val (.str ⟨#[]⟩), .val (.int .i64 0), .emp 3, .emp 6, .emp 4, .emp 1], none⟩]) (
 .seq (
 .reg [
   ⟨some 3, .alloc [.val (.str ⟨#[]⟩), .val (.int .i64 0), .emp 3, .emp 6, .emp 4, .emp 1], none⟩]) (
 .seq (
 .reg [
   ⟨some 4, .faddr 0 (.t 1), none⟩,
   ⟨some 5, .load true 3 (.t 4), none⟩,
   ⟨some 6, .call 106 [.t 5], none⟩,
   ⟨some 7, .faddr 0 (.t 3), none⟩,
   ⟨none, .store 3 (.t 7) (.t 6), none⟩]) (
 .seq (
 .reg [
   ⟨some 8, .faddr 3 (.t 1), none⟩,
   ⟨some 9, .load false 1 (.t 8), none⟩,
   ⟨some 10, .call 107 [.t 9], none⟩,
   ⟨some 11, .faddr 3 (.t 3), none⟩,
   ⟨none, .store 1 (.t 11) (.t 10), none⟩]) (
 .seq (
 .reg [
   ⟨some 12, .faddr 4 (.t 1), none⟩,
   ⟨some 13, .load true 2 (.t 12), none⟩,
   ⟨some 14, .call 108 [.t 13], none⟩,
   ⟨some 15, .faddr 4 (.t 3), none⟩,
   ⟨none, .store 2 (.t 15) (.t 14), none⟩]) (
 .seq (
 .reg [
   ⟨some 16, .load true 6 (.t 3), none⟩,
   ⟨none, .store 6 (.t 2) (.t 16), none⟩]) (
 .ret))))))
theorem ok59 : chkFn Tryz.prog 59 ir59 1 [.c 2 true 6] = true := by kernel_rfl

/-- loop.example/g00779/laws.toChannelS -/
def ir23 : PC :=
 .seq (
 .reg [
   ⟨some 2, .mov (.k (.emp 6)), none⟩]) (
 .seq (
 .reg [
   ⟨some 5, .mov (.t 0), none⟩,
   ⟨some 6, .len (.t 5), none⟩,
   ⟨some 7, .mks 68 6 120 true [.val (.str ⟨#[]⟩), .val (.int .i64 0), .emp 3, .emp 6, .emp 4, .emp 1] (.t 6), none⟩,
   ⟨some 3, .mov (.t 7), none⟩]) (
 .seq (
 .seq (
 .reg [
   ⟨some 4, .mov (.k (.val (.int .i64 0))), none⟩]) (
 .block 0 (
  .loop (.ghost (
   .seq (
   .seq (
   .reg [
     ⟨some 8, .mov (.t 4), none⟩,
     ⟨some 9, .mov (.t 0), none⟩,
     ⟨some 10, .len (.t 9), none⟩,
     ⟨some 11, .bin .lss (.t 8) (.t 10), none⟩]) (
   .cond (.t 11) (
    .skip) (
    .exit 0))) (
   .seq (
   .block 1 (
    .reg [
      ⟨some 14, .mov (.t 3), none⟩,
      ⟨some 15, .mov (.t 4), none⟩,
      ⟨some 16, .mov (.t 0), none⟩,
      ⟨some 17, .mov (.t 4), none⟩,
      ⟨some 18, .iaddr 6 (.t 16) (.t 17), none⟩,
      ⟨some 19, .load true 6 (.t 18), none⟩,
      ⟨some 20, .call 59 [.t 19], none⟩,
      ⟨some 21, .iaddr 6 (.t 14) (.t 15), none⟩,
      ⟨none, .store 6 (.t 21) (.t 20), none⟩])) (
   .reg [
     ⟨some 12, .mov (.t 4), none⟩,
     ⟨some 13, .bin .add (.t 12) (.k (.val (.int .i64 1))), none⟩,
     ⟨some 4, .mov (.t 13), none⟩]))))))) (
 .seq (
 .reg [
   ⟨some 22, .mov (.t 3), none⟩,
   ⟨some 2, .mov (.t 22), none⟩]) (
 .ret))))
theorem ok23 : chkFn Tryz.prog 23 ir23 1 [.t 2] = true := by kernel_rfl

/-- loop.example/g00779/laws.eqChannel -/
def ir81 : PC :=
 .seq (
 .reg [
   ⟨some 2, .box (.t 0), none⟩,
   ⟨some 3, .box (.t 1), none⟩,
   ⟨some 4, .mov (.k (.val (.bool false))), none⟩]) (
 .seq (
 .seq (
 .reg [
   ⟨some 5, .faddr 0 (.t 2), none⟩,
   ⟨some 6, .load true 3 (.t 5), none⟩,
   ⟨some 7, .faddr 0 (.t 3), none⟩,
   ⟨some 8, .load true 3 (.t 7), none⟩,
   ⟨some 9, .call 127 [.t 6, .t 8], none⟩,
   ⟨some 10, .un .not (.t 9), none⟩]) (
 .cond (.t 10) (
  .seq (
  .reg [
    ⟨some 4, .mov (.k (.val (.bool false))), none⟩]) (
  .ret)) (
  .skip))) (
 .seq (
 .seq (
 .reg [
   ⟨some 11, .faddr 3 (.t 2), none⟩,
   ⟨some 12, .load false 1 (.t 11), none⟩,
   ⟨some 13, .faddr 3 (.t 3), none⟩,
   ⟨some 14, .load false 1 (.t 13), none⟩,
   ⟨some 15, .call 128 [.t 12, .t 14], none⟩,
   ⟨some 16, .un .not (.t 15), none⟩]) (
 .cond (.t 16) (
  .seq (
  .reg [
    ⟨some 4, .mov (.k (.val (.bool false))), none⟩]) (
  .ret)) (
  .skip))) (
 .seq (
 .seq (
 .reg [
   ⟨some 17, .faddr 4 (.t 2), none⟩,
   ⟨some 18, .load true 2 (.t 17), none⟩,
   ⟨some 19, .faddr 4 (.t 3), none⟩,
   ⟨some 20, .load true 2 (.t 19), none⟩,
   ⟨some 21, .call 129 [.t 18, .t 20], none⟩,
   ⟨some 22, .un .not (.t 21), none⟩]) (
 .cond (.t 22) (
  .seq (
  .reg [
    ⟨some 4, .mov (.k (.val (.bool false))), none⟩]) (
  .ret)) (
  .skip))) (
 .seq (
 .reg [
   ⟨some 4, .mov (.k (.val (.bool true))), none⟩]) (
 .ret)))))
theorem ok81 : chkFn Tryz.prog 81 ir81 2 [.t 4] = true := by kernel_rfl

/-- loop.example/g00779/laws.eqChannelS -/
def ir35 : PC :=
 .seq (
 .reg [
   ⟨some 4, .mov (.k (.val (.bool false))), none⟩]) (
 .seq (
 .seq (
 .reg [
   ⟨some 6, .mov (.t 0), none⟩,
   ⟨some 7, .len (.t 6), none⟩,
   ⟨some 8, .mov (.t 1), none⟩,
   ⟨some 9, .len (.t 8), none⟩,
   ⟨some 10, .bin .neq (.t 7) (.t 9), none⟩]) (
 .cond (.t 10) (
  .seq (
  .reg [
    ⟨some 4, .mov (.k (.val (.bool false))), none⟩]) (
  .ret)) (
  .skip))) (
 .seq (
 .seq (
 .reg [
   ⟨some 5, .mov (.k (.val (.int .i64 0))), none⟩]) (
 .block 0 (
  .loop (.ghost (
   .seq (
   .seq (
   .reg [
     ⟨some 11, .mov (.t 5), none⟩,
     ⟨some 12, .mov (.t 0), none⟩,
     ⟨some 13, .len (.t 12), none⟩,
     ⟨some 14, .bin .lss (.t 11) (.t 13), none⟩]) (
   .cond (.t 14) (
    .skip) (
    .exit 0))) (
   .seq (
   .block 1 (
    .seq (
    .draw [
      ⟨some 17, .mov (.t 0), none⟩,
      ⟨some 18, .mov (.t 5), none⟩,
      ⟨some 19, .iaddr 6 (.t 17) (.t 18), none⟩,
      ⟨some 20, .load true 6 (.t 19), none⟩,
      ⟨some 21, .mov (.t 1), none⟩,
      ⟨some 22, .mov (.t 5), none⟩,
      ⟨some 23, .iaddr 6 (.t 21) (.t 22), none⟩,
      ⟨some 24, .load true 6 (.t 23), none⟩] [
      ⟨some 25, .call 81 [.t 20, .t 24], none⟩,
      ⟨some 26, .un .not (.t 25), none⟩]) (
    .cond (.t 26) (
     .seq (
     .reg [
       ⟨some 4, .mov (.k (.val (.bool false))), none⟩]) (
     .ret)) (
     .skip)))) (
   .reg [
     ⟨some 15, .mov (.t 5), none⟩,
     ⟨some 16, .bin .add (.t 15) (.k (.val (.int .i64 1))), none⟩,
     ⟨some 5, .mov (.t 16), none⟩]))))))) (
 .seq (
 .reg [
   ⟨some 4, .mov (.k (.val (.bool true))), none⟩]) (
 .ret))))
theorem ok35 : chkFn Tryz.prog 35 ir35 2 [.t 4] = true := by kernel_rfl

/-- loop.example/g00779/laws.szEntryS -/
def ir20 : PC :=
 .seq (
 .reg [
   ⟨some 4, .mov (.k (.val (.int .i64 0))), none⟩]) (
 .seq (
 .reg [
   ⟨some 5, .mov (.t 1), none⟩,
   ⟨some 6, .mov (.t 0), none⟩,
   ⟨some 7, .len (.t 6), none⟩,
   ⟨some 8, .bin .sub (.t 5) (.t 7), none⟩,
   ⟨some 1, .mov (.t 8), none⟩]) (
 .seq (
 .seq (
 .reg [
   ⟨some 9, .mov (.t 1), none⟩,
   ⟨some 10, .bin .lss (.t 9) (.k (.val (.int .i64 0))), none⟩]) (
 .cond (.t 10) (
  .seq (
  .reg [
    ⟨some 4, .mov (.k (.val (.int .i64 (-1)))), none⟩]) (
  .ret)) (
  .skip))) (
 .seq (
 .reg [
   ⟨some 11, .mov (.t 1), none⟩,
   ⟨some 4, .mov (.t 11), none⟩]) (
 .ret))))
theorem ok20 : chkFn Tryz.prog 20 ir20 2 [.t 4] = true := by kernel_rfl

/-- loop.example/g00779/laws.toEntry -/
def ir62 : PC :=
 .seq (
 .reg [
   ⟨some 1, .box (.t 0), none⟩,
   ⟨some 2, .alloc [.val (.int .i64 0), .val (.int .i64 0), .val (.int .i64 0)], none⟩]) (
 .seq (
 .reg [
   ⟨some 3, .alloc [.val (.int .i64 0), .val (.int .i64 0), .val (.int .i64 0)], none⟩]) (
 .seq (
 .reg [
   ⟨some 4, .faddr 0 (.t 1), none⟩,
   ⟨some 5, .load false 1 (.t 4), none⟩,
   ⟨some 6, .faddr 0 (.t 3), none⟩,
   ⟨none, .store 1 (.t 6) (.t 5), none⟩]) (
 .seq (
 .reg [
   ⟨some 7, .faddr 1 (.t 1), none⟩,
   ⟨some 8, .load false 1 (.t 7), none⟩,
   ⟨some 9, .faddr 1 (.t 3), none⟩,
   ⟨none, .store 1 (.t 9) (.t 8), none⟩]) (
 .seq (
 .reg [
   ⟨some 10, .faddr 2 (.t 1), none⟩,
   ⟨some 11, .load false 1 (.t 10), none⟩,
   ⟨some 12, .faddr 2 (.t 3), none⟩,
   ⟨none, .store 1 (.t 12) (.t 11), none⟩]) (
 .seq (
 .reg [
   ⟨some 13, .load true 3 (.t 3), none⟩,
   ⟨none, .store 3 (.t 2) (.t 13), none⟩]) (
 .ret))))))
theorem ok62 : chkFn Tryz.prog 62 ir62 1 [.c 2 true 3] = true := by kernel_rfl

/-- loop.example/g00779/laws.toEntryS -/
def ir25 : PC :=
 .seq (
 .reg [
   ⟨some 2, .mov (.k (.emp 3)), none⟩]) (
 .seq (
 .reg [
   ⟨some 5, .mov (.t 0), none⟩,
   ⟨some 6, .len (.t 5), none⟩,
   ⟨some 7, .mks 72 3 24 true [.val (.int .i64 0), .val (.int .i64 0), .val (.int .i64 0)] (.t 6), none⟩,
   ⟨some 3, .mov (.t 7), none⟩]) (
 .seq (
 .seq (
 .reg [
   ⟨some 4, .mov (.k (.val (.int .i64 0))), none⟩]) (
 .block 0 (
  .loop (.ghost (
   .seq (
   .seq (
   .reg [
     ⟨some 8, .mov (.t 4), none⟩,
     ⟨some 9, .mov (.t 0), none⟩,
     ⟨some 10, .len (.t 9), none⟩,
     ⟨some 11, .bin .lss (.t 8) (.t 10), none⟩]) (
   .cond (.t 11) (
    .skip) (
    .exit 0))) (
   .seq (
   .block 1 (
    .reg [
      ⟨some 14, .mov (.t 3), none⟩,
      ⟨some 15, .mov (.t 4), none⟩,
      ⟨some 16, .mov (.t 0), none⟩,
      ⟨some 17, .mov (.t 4), none⟩,
      ⟨some 18, .iaddr 3 (.t 16) (.t 17), none⟩,
      ⟨some 19, .load true 3 (.t 18), none⟩,
      ⟨some 20, .call 62 [.t 19], none⟩,
      ⟨some 21, .iaddr 3 (.t 14) (.t 15), none⟩,
      ⟨none, .store 3 (.t 21) (.t 20), none⟩])) (
   .reg [
     ⟨some 12, .mov (.t 4), none⟩,
     ⟨some 13, .bin .add (.t 12) (.k (.val (.int .i64 1))), none⟩,
     ⟨some 4, .mov (.t 13), none⟩]))))))) (
 .seq (
 .reg [
   ⟨some 22, .mov (.t 3), none⟩,
   ⟨some 2, .mov (.t 22), none⟩]) (
 .ret))))
theorem ok25 : chkFn Tryz.prog 25 ir25 1 [.t 2] = true := by kernel_rfl

/-- loop.example/g00779/laws.eqEntry -/
def ir84 : PC :=
 .seq (
 .reg [
   ⟨some 2, .box (.t 0), none⟩,
   ⟨some 3, .box (.t 1), none⟩,
   ⟨some 4, .mov (.k (.val (.bool false))), none⟩]) (
 .seq (
 .seq (
 .reg [
   ⟨some 5, .faddr 0 (.t 2), none⟩,
   ⟨some 6, .load false 1 (.t 5), none⟩,
   ⟨some 7, .faddr 0 (.t 3), none⟩,
   ⟨some 8, .load false 1 (.t 7), none⟩,
   ⟨some 9, .bin .neq (.t 6) (.t 8), none⟩]) (
 .cond (.t 9) (
  .seq (
  .reg [
    ⟨some 4, .mov (.k (.val (.bool false))), none⟩]) (
  .ret)) (
  .skip))) (
 .seq (
 .seq (
 .reg [
   ⟨some 10, .faddr 1 (.t 2), none⟩,
   ⟨some 11, .load false 1 (.t 10), none⟩,
   ⟨some 12, .faddr 1 (.t 3), none⟩,
   ⟨some 13, .load false 1 (.t 12), none⟩,
   ⟨some 14, .bin .neq (.t 11) (.t 13), none⟩]) (
 .cond (.t 14) (
  .seq (
  .reg [
    ⟨some 4, .mov (.k (.val (.bool false))), none⟩]) (
  .ret)) (
  .skip))) (
 .seq (
 .seq (
 .reg [
   ⟨some 15, .faddr 2 (.t 2), none⟩,
   ⟨some 16, .load false 1 (.t 15), none⟩,
   ⟨some 17, .faddr 2 (.t 3), none⟩,
   ⟨some 18, .load false 1 (.t 17), none⟩,
   ⟨some 19, .bin .neq (.t 16) (.t 18), none⟩]) (
 .cond (.t 19) (
  .seq (
  .reg [
    ⟨some 4, .mov (.k (.val (.bool false))), none⟩]) (
  .ret)) (
  .skip))) (
 .seq (
 .reg [
   ⟨some 4, .mov (.k (.val (.bool true))), none⟩]) (
 .ret)))))
theorem ok84 : chkFn Tryz.prog 84 ir84 2 [.t 4] = true := by kernel_rfl

/-- loop.example/g00779/laws.eqEntryS -/
def ir37 : PC :=
 .seq (
 .reg [
   ⟨some 4, .mov (.k (.val (.bool false))), none⟩]) (
 .seq (
 .seq (
 .reg [
   ⟨some 6, .mov (.t 0), none⟩,
   ⟨some 7, .len (.t 6), none⟩,
   ⟨some 8, .mov (.t 1), none⟩,
   ⟨some 9, .len (.t 8), none⟩,
   ⟨some 10, .bin .neq (.t 7) (.t 9), none⟩]) (
 .cond (.t 10) (
  .seq (
  .reg [
    ⟨some 4, .mov (.k (.val (.bool false))), none⟩]) (
  .ret)) (
  .skip))) (
 .seq (
 .seq (
 .reg [
   ⟨some 5, .mov (.k (.val (.int .i64 0))), none⟩]) (
 .block 0 (
  .loop (.ghost (
   .seq (
   .seq (
   .reg [
     ⟨some 11, .mov (.t 5), none⟩,
     ⟨some 12, .mov (.t 0), none⟩,
     ⟨some 13, .len (.t 12), none⟩,
     ⟨some 14, .bin .lss (.t 11) (.t 13), none⟩]) (
   .cond (.t 14) (
    .skip) (
    .exit 0))) (
   .seq (
   .block 1 (
    .seq (
    .draw [
      ⟨some 17, .mov (.t 0), none⟩,
      ⟨some 18, .mov (.t 5), none⟩,
      ⟨some 19, .iaddr 3 (.t 17) (.t 18), none⟩,
      ⟨some 20, .load true 3 (.t 19), none⟩,
      ⟨some 21, .mov (.t 1), none⟩,
      ⟨some 22, .mov (.t 5), none⟩,
      ⟨some 23, .iaddr 3 (.t 21) (.t 22), none⟩,
      ⟨some 24, .load true 3 (.t 23), none⟩] [
      ⟨some 25, .call 84 [.t 20, .t 24], none⟩,
      ⟨some 26, .un .not (.t 25), none⟩]) (
    .cond (.t 26) (
     .seq (
     .reg [
       ⟨some 4, .mov (.k (.val (.bool false))), none⟩]) (
     .ret)) (
     .skip)))) (
   .reg [
     ⟨some 15, .mov (.t 5), none⟩,
     ⟨some 16, .bin .add (.t 15) (.k (.val (.int .i64 1))), none⟩,
     ⟨some 5, .mov (.t 16), none⟩]))))))) (
 .seq (
 .reg [
   ⟨some 4, .mov (.k (.val (.bool true))), none⟩]) (
 .ret))))
theorem ok37 : chkFn Tryz.prog 37 ir37 2 [.t 4] = true := by kernel_rfl

/-- loop.example/g00779/laws.szWire -/
def ir54 : PC :=
 .seq (
 .reg [
   ⟨some 2, .box (.t 0), none⟩,
   ⟨some 4, .mov (.k (.val (.int .i64 0))), none⟩]) (
 .seq (
 .reg [
   ⟨some 5, .mov (.t 1), none⟩,
   ⟨some 6, .faddr 2 (.t 2), none⟩,
   ⟨some 7, .load false 1 (.t 6), none⟩,
   ⟨some 8, .lens (.t 7), none⟩,
   ⟨some 9, .bin .sub (.t 5) (.t 8), none⟩,
   ⟨some 1, .mov (.t 9), none⟩]) (
 .seq (
 .seq (
 .reg [
   ⟨some 10, .mov (.t 1), none⟩,
   ⟨some 11, .bin .lss (.t 10) (.k (.val (.int .i64 0))), none⟩]) (
 .cond (.t 11) (
  .seq (
  .reg [
    ⟨some 4, .mov (.k (.val (.int .i64 (-1)))), none⟩]) (
  .ret)) (
  .skip))) (
 .seq (
 .reg [
   ⟨some 12, .mov (.t 1), none⟩,
   ⟨some 13, .faddr 3 (.t 2), none⟩,
   ⟨some 14, .load false 1 (.t 13), none⟩,
   ⟨some 15, .lens (.t 14), none⟩,
   ⟨some 16, .bin .sub (.t 12) (.t 15), none⟩,
   ⟨some 1, .mov (.t 16), none⟩]) (
 .seq (
 .seq (
 .reg [
   ⟨some 17, .mov (.t 1), none⟩,
   ⟨some 18, .bin .lss (.t 17) (.k (.val (.int .i64 0))), none⟩]) (
 .cond (.t 18) (
  .seq (
  .reg [
    ⟨some 4, .mov (.k (.val (.int .i64 (-1)))), none⟩]) (
  .ret)) (
  .skip))) (
 .seq (
 .reg [
   ⟨some 19, .faddr 4 (.t 2), none⟩,
   ⟨some 20, .load false 1 (.t 19), none⟩,
   ⟨some 21, .mov (.t 1), none⟩,
   ⟨some 22, .call 97 [.t 20, .t 21], none⟩,
   ⟨some 1, .mov (.t 22), none⟩]) (
 .seq (
 .seq (
 .reg [
   ⟨some 23, .mov (.t 1), none⟩,
   ⟨some 24, .bin .lss (.t 23) (.k (.val (.int .i64 0))), none⟩]) (
 .cond (.t 24) (
  .seq (
  .reg [
    ⟨some 4, .mov (.k (.val (.int .i64 (-1)))), none⟩]) (
  .ret)) (
  .skip))) (
 .seq (
 .reg [
   ⟨some 25, .mov (.t 1), none⟩,
   ⟨some 26, .faddr 5 (.t 2), none⟩,
   ⟨some 27, .load false 1 (.t 26), none⟩,
   ⟨some 28, .lens (.t 27), none⟩,
   ⟨some 29, .bin .sub (.t 25) (.t 28), none⟩,
   ⟨some 1, .mov (.t 29), none⟩]) (
 .seq (
 .seq (
 .reg [
   ⟨some 30, .mov (.t 1), none⟩,
   ⟨some 31, .bin .lss (.t 30) (.k (.val (.int .i64 0))), none⟩]) (
 .cond (.t 31) (
  .seq (
  .reg [
    ⟨some 4, .mov (.k (.val (.int .i64 (-1)))), none⟩]) (
  .ret)) (
  .skip))) (
 .seq (
 .reg [
   ⟨some 32, .mov (.t 1), none⟩,
   ⟨some 4, .mov (.t 32), none⟩]) (
 .ret))))))))))
theorem ok54 : chkFn Tryz.prog 54 ir54 2 [.t 4] = true := by kernel_rfl

/-- loop.example/g00779/laws.szWireS -/
def ir21 : PC :=
 .seq (
 .reg [
   ⟨some 4, .mov (.k (.val (.int .i64 0))), none⟩]) (
 .seq (
 .reg [
   ⟨some 6, .mov (.t 1), none⟩,
   ⟨some 7, .mov (.t 0), none⟩,
   ⟨some 8, .len (.t 7), none⟩,
   ⟨some 9, .bin .sub (.t 6) (.t 8), none⟩,
   ⟨some 1, .mov (.t 9), none⟩]) (
 .seq (
 .seq (
 .reg [
   ⟨some 10, .mov (.t 1), none⟩,
   ⟨some 11, .bin .lss (.t 10) (.k (.val (.int .i64 0))), none⟩]) (
 .cond (.t 11) (
  .seq (
  .reg [
    ⟨some 4, .mov (.k (.val (.int .i64 (-1)))), none⟩]) (
  .ret)) (
  .skip))) (
 .seq (
 .seq (
 .reg [
   ⟨some 5, .mov (.k (.val (.int .i64 0))), none⟩]) (
 .block 0 (
  .loop (.ghost (
   .seq (
   .seq (
   .reg [
     ⟨some 12, .mov (.t 5), none⟩,
     ⟨some 13, .mov (.t 0), none⟩,
     ⟨some 14, .len (.t 13), none⟩,
     ⟨some 15, .bin .lss (.t 12) (.t 14), none⟩]) (
   .cond (.t 15) (
    .skip) (
    .exit 0))) (
   .seq (
   .block 1 (
    .seq (
    .reg [
      ⟨some 18, .mov (.t 0), none⟩,
      ⟨some 19, .mov (.t 5), none⟩,
      ⟨some 20, .iaddr 7 (.t 18) (.t 19), none⟩,
      ⟨some 21, .load true 7 (.t 20), none⟩,
      ⟨some 22, .mov (.t 1), none⟩,
      ⟨some 23, .call 54 [.t 21, .t 22], none⟩,
      ⟨some 1, .mov (.t 23), none⟩]) (
    .seq (
    .reg [
      ⟨some 24, .mov (.t 1), none⟩,
      ⟨some 25, .bin .lss (.t 24) (.k (.val (.int .i64 0))), none⟩]) (
    .cond (.t 25) (
     .seq (
     .reg [
       ⟨some 4, .mov (.k (.val (.int .i64 (-1)))), none⟩]) (
     .ret)) (
     .skip))))) (
   .reg [
     ⟨some 16, .mov (.t 5), none⟩,
     ⟨some 17, .bin .add (.t 16) (.k (.val (.int .i64 1))), none⟩,
     ⟨some 5, .mov (.t 17), none⟩]))))))) (
 .seq (
 .reg [
   ⟨some 26, .mov (.t 1), none⟩,
   ⟨some 4, .mov (.t 26), none⟩]) (
 .ret)))))
theorem ok21 : chkFn Tryz.prog 21 ir21 2 [.t 4] = true := by kernel_rfl

/-- loop.example/g00779/laws.toWire -/
def ir63 : PC :=
 .seq (
 .reg [
   ⟨some 1, .box (.t 0), none⟩,
   ⟨some 2, .alloc [.val (.int .i64 0), .val (.int .i64 0), .val (.str ⟨#[]⟩), .val (.str ⟨#[]⟩), .emp 1, .val (.str ⟨#[]⟩), .val (.bool false)], none⟩]) (
 .seq (
 .reg [
   ⟨some 3, .alloc [.val (.int .i64 0), .val (.int .i64 0), .val (.str ⟨#[]⟩), .val (.str ⟨#[]⟩), .emp 1, .val (.str ⟨#[]⟩), .val (.bool false)], none⟩]) (
 .seq (
 .reg [
   ⟨some 4, .faddr 0 (.t 1), none⟩,
   ⟨some 5, .load false 1 (.t 4), none⟩,
   ⟨some 6, .faddr 0 (.t 3), none⟩,
   ⟨none, .store 1 (.t 6) (.t 5), none⟩]) (
 .seq (
 .reg [
   ⟨some 7, .faddr 1 (.t 1), none⟩,
   ⟨some 8, .load false 1 (.t 7), none⟩,
   ⟨some 9, .faddr 1 (.t 3), none⟩,
   ⟨none, .store 1 (.t 9) (.t 8), none⟩]) (
 .seq (
 .reg [
   ⟨some 10, .faddr 2 (.t 1), none⟩,
   ⟨some 11, .load false 1 (.t 10), none⟩,
   ⟨some 12, .faddr 2 (.t 3), none⟩,
   ⟨none, .store 1 (.t 12) (.t 11), none⟩]) (
 .seq (
 .reg [
   ⟨some 13, .faddr 3 (.t 1), none⟩,
   ⟨some 14, .load false 1 (.t 13), none⟩,
   ⟨some 15, .faddr 3 (.t 3), none⟩,
   ⟨none, .store 1 (.t 15) (.t 14), none⟩]) (
 .seq (
 .reg [
   ⟨some 16, .faddr 4 (.t 1), none⟩,
   ⟨some 17, .load false 1 (.t 16), none⟩,
   ⟨some 18, .call 110 [.t 17], none⟩,
   ⟨some 19, .faddr 4 (.t 3), none⟩,
   ⟨none, .store 1 (.t 19) (.t 18), none⟩]) (
 .seq (
 .reg [
   ⟨some 20, .faddr 5 (.t 1), none⟩,
   ⟨some 21, .load false 1 (.t 20), none⟩,
   ⟨some 22, .faddr 5 (.t 3), none⟩,
   ⟨none, .store 1 (.t 22) (.t 21), none⟩]) (
 .seq (
 .reg [
   ⟨some 23, .faddr 6 (.t 1), none⟩,
   ⟨some 24, .load false 1 (.t 23), none⟩,
   ⟨some 25, .faddr 6 (.t 3), none⟩,
   ⟨none, .store 1 (.t 25) (.t 24), none⟩]) (
 .seq (
 .reg [
   ⟨some 26, .load true 7 (.t 3), none⟩,
   ⟨none, .store 7 (.t 2) (.t 26), none⟩]) (
 .ret))))))))))
theorem ok63 : chkFn Tryz.prog 63 ir63 1 [.c 2 true 7] = true := by kernel_rfl

/-- loop.example/g00779/laws.toWireS -/
def ir26 : PC :=
 .seq (
 .reg [
   ⟨some 2, .mov (.k (.emp 7)), none⟩]) (
 .seq (
 .reg [
   ⟨some 5, .mov (.t 0), none⟩,
   ⟨some 6, .len (.t 5), none⟩,
   ⟨some 7, .mks 76 7 96 true [.val (.int .i64 0), .val (.int .i64 0), .val (.str ⟨#[]⟩), .val (.str ⟨#[]⟩), .emp 1, .val (.str ⟨#[]⟩), .val (.bool false)] (.t 6), none⟩,
   ⟨some 3, .mov (.t 7), none⟩]) (
 .seq (
 .seq (
 .reg [
   ⟨some 4, .mov (.k (.val (.int .i64 0))), none⟩]) (
 .block 0 (
  .loop (.ghost (
   .seq (
   .seq (
   .reg [
     ⟨some 8, .mov (.t 4), none⟩,
     ⟨some 9, .mov (.t 0), none⟩,
     ⟨some 10, .len (.t 9), none⟩,
     ⟨some 11, .bin .lss (.t 8) (.t 10), none⟩]) (
   .cond (.t 11) (
    .skip) (
    .exit 0))) (
   .seq (
   .block 1 (
    .reg [
      ⟨some 14, .mov (.t 3), none⟩,
      ⟨some 15, .mov (.t 4), none⟩,
      ⟨some 16, .mov (.t 0), none⟩,
      ⟨some 17, .mov (.t 4), none⟩,
      ⟨some 18, .iaddr 7 (.t 16) (.t 17), none⟩,
      ⟨some 19, .load true 7 (.t 18), none⟩,
      ⟨some 20, .call 63 [.t 19], none⟩,
      ⟨some 21, .iaddr 7 (.t 14) (.t 15), none⟩,
      ⟨none, .store 7 (.t 21) (.t 20), none⟩])) (
   .reg [
     ⟨some 12, .mov (.t 4), none⟩,
     ⟨some 13, .bin .add (.t 12) (.k (.val (.int .i64 1))), none⟩,
     ⟨some 4, .mov (.t 13), none⟩]))))))) (
 .seq (
 .reg [
   ⟨some 22, .mov (.t 3), none⟩,
   ⟨some 2, .mov (.t 22), none⟩]) (
 .ret))))
theorem ok26 : chkFn Tryz.prog 26 ir26 1 [.t 2] = true := by kernel_rfl

/-- loop.example/g00779/laws.eqWire -/
def ir85 : PC :=
 .seq (
 .reg [
   ⟨some 2, .box (.t 0), none⟩,
   ⟨some 3, .box (.t 1), none⟩,
   ⟨some 4, .mov (.k (.val (.bool false))), none⟩]) (
 .seq (
 .seq (
 .reg [
   ⟨some 5, .faddr 0 (.t 2), none⟩,
   ⟨some 6, .load false 1 (.t 5), none⟩,
   ⟨some 7, .faddr 0 (.t 3), none⟩,
   ⟨some 8, .load false 1 (.t 7), none⟩,
   ⟨some 9, .bin .neq (.t 6) (.t 8), none⟩]) (
 .cond (.t 9) (
  .seq (
  .reg [
    ⟨some 4, .mov (.k (.val (.bool false))), none⟩]) (
  .ret)) (
  .skip))) (
 .seq (
 .seq (
 .reg [
   ⟨some 10, .faddr 1 (.t 2), none⟩,
   ⟨some 11, .load false 1 (.t 10), none⟩,
   ⟨some 12, .faddr 1 (.t 3), none⟩,
   ⟨some 13, .load false 1 (.t 12), none⟩,
   ⟨some 14, .bin .neq (.t 11) (.t 13), none⟩]) (
 .cond (.t 14) (
  .seq (
  .reg [
    ⟨some 4, .mov (.k (.val (.bool false))), none⟩]) (
  .ret)) (
  .skip))) (
 .seq (
 .seq (
 .reg [
   ⟨some 15, .faddr 2 (.t 2), none⟩,
   ⟨some 16, .load false 1 (.t 15), none⟩,
   ⟨some 17, .faddr 2 (.t 3), none⟩,
   ⟨some 18, .load false 1 (.t 17), none⟩,
   ⟨some 19, .bin .neq (.t 16) (.t 18), none⟩]) (
 .cond (.t 19) (
  .seq (
  .reg [
    ⟨some 4, .mov (.k (.val (.bool false))), none⟩]) (
  .ret)) (
  .skip))) (
 .seq (
 .seq (
 .reg [
   ⟨some 20, .faddr 3 (.t 2), none⟩,
   ⟨some 21, .load false 1 (.t 20), none⟩,
   ⟨some 22, .faddr 3 (.t 3), none⟩,
   ⟨some 23, .load false 1 (.t 22), none⟩,
   ⟨some 24, .bin .neq (.t 21) (.t 23), none⟩]) (
 .cond (.t 24) (
  .seq (
  .reg [
    ⟨some 4, .mov (.k (.val (.bool false))), none⟩]) (
  .ret)) (
  .skip))) (
 .seq (
 .seq (
 .reg [
   ⟨some 25, .faddr 4 (.t 2), none⟩,
   ⟨some 26, .load false 1 (.t 25), none⟩,
   ⟨some 27, .faddr 4 (.t 3), none⟩,
   ⟨some 28, .load false 1 (.t 27), none⟩,
   ⟨some 29, .call 131 [.t 26, .t 28], none⟩,
   ⟨some 30, .un .not (.t 29), none⟩]) (
 .cond (.t 30) (
  .seq (
  .reg [
    ⟨some 4, .mov (.k (.val (.bool false))), none⟩]) (
  .ret)) (
  .skip))) (
 .seq (
 .seq (
 .reg [
   ⟨some 31, .faddr 5 (.t 2), none⟩,
   ⟨some 32, .load false 1 (.t 31), none⟩,
   ⟨some 33, .faddr 5 (.t 3), none⟩,
   ⟨some 34, .load false 1 (.t 33), none⟩,
   ⟨some 35, .bin .neq (.t 32) (.t 34), none⟩]) (
 .cond (.t 35) (
  .seq (
  .reg [
    ⟨some 4, .mov (.k (.val (.bool false))), none⟩]) (
  .ret)) (
  .skip))) (
 .seq (
 .seq (
 .reg [
   ⟨some 36, .faddr 6 (.t 2), none⟩,
   ⟨some 37, .load false 1 (.t 36), none⟩,
   ⟨some 38, .faddr 6 (.t 3), none⟩,
   ⟨some 39, .load false 1 (.t 38), none⟩,
   ⟨some 40, .eqb true (.t 37) (.t 39), none⟩]) (
 .cond (.t 40) (
  .seq (
  .reg [
    ⟨some 4, .mov (.k (.val (.bool false))), none⟩]) (
  .ret)) (
  .skip))) (
 .seq (
 .reg [
   ⟨some 4, .mov (.k (.val (.bool true))), none⟩]) (
 .ret)))))))))
theorem ok85 : chkFn Tryz.prog 85 ir85 2 [.t 4] = true := by kernel_rfl

/-- loop.example/g00779/laws.eqWireS -/
def ir38 : PC :=
 .seq (
 .reg [
   ⟨some 4, .mov (.k (.val (.bool false))), none⟩]) (
 .seq (
 .seq (
 .reg [
   ⟨some 6, .mov (.t 0), none⟩,
   ⟨some 7, .len (.t 6), none⟩,
   ⟨some 8, .mov (.t 1), none⟩,
   ⟨some 9, .len (.t 8), none⟩,
   ⟨some 10, .bin .neq (.t 7) (.t 9), none⟩]) (
 .cond (.t 10) (
  .seq (
  .reg [
    ⟨some 4, .mov (.k (.val (.bool false))), none⟩]) (
  .ret)) (
  .skip))) (
 .seq (
 .seq (
 .reg [
   ⟨some 5, .mov (.k (.val (.int .i64 0))), none⟩]) (
 .block 0 (
  .loop (.ghost (
   .seq (
   .seq (
   .reg [
     ⟨some 11, .mov (.t 5), none⟩,
     ⟨some 12, .mov (.t 0), none⟩,
     ⟨some 13, .len (.t 12), none⟩,
     ⟨some 14, .bin .lss (.t 11) (.t 13), none⟩]) (
   .cond (.t 14) (
    .skip) (
    .exit 0))) (
   .seq (
   .block 1 (
    .seq (
    .draw [
      ⟨some 17, .mov (.t 0), none⟩,
      ⟨some 18, .mov (.t 5), none⟩,
      ⟨some 19, .iaddr 7 (.t 17) (.t 18), none⟩,
      ⟨some 20, .load true 7 (.t 19), none⟩,
      ⟨some 21, .mov (.t 1), none⟩,
      ⟨some 22, .mov (.t 5), none⟩,
      ⟨some 23, .iaddr 7 (.t 21) (.t 22), none⟩,
      ⟨some 24, .load true 7 (.t 23), none⟩] [
      ⟨some 25, .call 85 [.t 20, .t 24], none⟩,
      ⟨some 26, .un .not (.t 25), none⟩]) (
    .cond (.t 26) (
     .seq (
     .reg [
       ⟨some 4, .mov (.k (.val (.bool false))), none⟩]) (
     .ret)) (
     .skip)))) (
   .reg [
     ⟨some 15, .mov (.t 5), none⟩,
     ⟨some 16, .bin .add (.t 15) (.k (.val (.int .i64 1))), none⟩,
     ⟨some 5, .mov (.t 16), none⟩]))))))) (
 .seq (
 .reg [
   ⟨some 4, .mov (.k (.val (.bool true))), none⟩]) (
 .ret))))
theorem ok38 : chkFn Tryz.prog 38 ir38 2 [.t 4] = true := by kernel_rfl

/-- loop.example/g00779/laws.szPipe -/
def ir7 : PC :=
 .seq (
 .reg [
   ⟨some 2, .box (.t 0), none⟩,
   ⟨some 4, .mov (.k (.val (.int .i64 0))), none⟩]) (
 .seq (
 .reg [
   ⟨some 5, .faddr 0 (.t 2), none⟩,
   ⟨some 6, .load false 1 (.t 5), none⟩,
   ⟨some 7, .mov (.t 1), none⟩,
   ⟨some 8, .call 18 [.t 6, .t 7], none⟩,
   ⟨some 1, .mov (.t 8), none⟩]) (
 .seq (
 .seq (
 .reg [
   ⟨some 9, .mov (.t 1), none⟩,
   ⟨some 10, .bin .lss (.t 9) (.k (.val (.int .i64 0))), none⟩]) (
 .cond (.t 10) (
  .seq (
  .reg [
    ⟨some 4, .mov (.k (.val (.int .i64 (-1)))), none⟩]) (
  .ret)) (
  .skip))) (
 .seq (
 .reg [
   ⟨some 11, .faddr 1 (.t 2), none⟩,
   ⟨some 12, .load true 3 (.t 11), none⟩,
   ⟨some 13, .mov (.t 1), none⟩,
   ⟨some 14, .call 19 [.t 12, .t 13], none⟩,
   ⟨some 1, .mov (.t 14), none⟩]) (
 .seq (
 .seq (
 .reg [
   ⟨some 15, .mov (.t 1), none⟩,
   ⟨some 16, .bin .lss (.t 15) (.k (.val (.int .i64 0))), none⟩]) (
 .cond (.t 16) (
  .seq (
  .reg [
    ⟨some 4, .mov (.k (.val (.int .i64 (-1)))), none⟩]) (
  .ret)) (
  .skip))) (
 .seq (
 .reg [
   ⟨some 17, .faddr 6 (.t 2), none⟩,
   ⟨some 18, .load false 1 (.t 17), none⟩,
   ⟨some 19, .mov (.t 1), none⟩,
   ⟨some 20, .call 20 [.t 18, .t 19], none⟩,
   ⟨some 1, .mov (.t 20), none⟩]) (
 .seq (
 .seq (
 .reg [
   ⟨some 21, .mov (.t 1), none⟩,
   ⟨some 22, .bin .lss (.t 21) (.k (.val (.int .i64 0))), none⟩]) (
 .cond (.t 22) (
  .seq (
  .reg [
    ⟨some 4, .mov (.k (.val (.int .i64 (-1)))), none⟩]) (
  .ret)) (
  .skip))) (
 .seq (
 .reg [
   ⟨some 23, .faddr 7 (.t 2), none⟩,
   ⟨some 24, .load false 1 (.t 23), none⟩,
   ⟨some 25, .mov (.t 1), none⟩,
   ⟨some 26, .call 21 [.t 24, .t 25], none⟩,
   ⟨some 1, .mov (.t 26), none⟩]) (
 .seq (
 .seq (
 .reg [
   ⟨some 27, .mov (.t 1), none⟩,
   ⟨some 28, .bin .lss (.t 27) (.k (.val (.int .i64 0))), none⟩]) (
 .cond (.t 28) (
  .seq (
  .reg [
    ⟨some 4, .mov (.k (.val (.int .i64 (-1)))), none⟩]) (
  .ret)) (
  .skip))) (
 .seq (
 .reg [
   ⟨some 29, .mov (.t 1), none⟩,
   ⟨some 4, .mov (.t 29), none⟩]) (
 .ret))))))))))
theorem ok7 : chkFn Tryz.prog 7 ir7 2 [.t 4] = true := by kernel_rfl

/-- loop.example/g00779/laws.toPipe -/
def ir9 : PC :=
 .seq (
 .reg [
   ⟨some 1, .box (.t 0), none⟩,
   ⟨some 2, .alloc [.emp 6, .val (.str ⟨#[]⟩), .emp 1, .emp 2, .val (.int .i64 0), .val (.int .i64 0), .emp 3, .emp 7], none⟩]) (
 .seq (
 .reg [
   ⟨some 3, .alloc [.emp 6, .val (.str ⟨#[]⟩), .emp 1, .emp 2, .val (.int .i64 0), .val (.int .i64 0), .emp 3, .emp 7], none⟩]) (
 .seq (
 .reg [
   ⟨some 4, .faddr 0 (.t 1), none⟩,
   ⟨some 5, .load false 1 (.t 4), none⟩,
   ⟨some 6, .call 23 [.t 5], none⟩,
   ⟨some 7, .faddr 0 (.t 3), none⟩,
   ⟨none, .store 1 (.t 7) (.t 6), none⟩]) (
 .seq (
 .reg [
   ⟨some 8, .faddr 1 (.t 1), none⟩,
   ⟨some 9, .load true 3 (.t 8), none⟩,
   ⟨some 10, .call 24 [.t 9], none⟩,
   ⟨some 11, .faddr 1 (.t 3), none⟩,
   ⟨none, .store 3 (.t 11) (.t 10), none⟩]) (
 .seq (
 .reg [
   ⟨some 12, .faddr 4 (.t 1), none⟩,
   ⟨some 13, .load false 1 (.t 12), none⟩,
   ⟨some 14, .faddr 4 (.t 3), none⟩,
   ⟨none, .store 1 (.t 14) (.t 13), none⟩]) (
 .seq (
 .reg [
   ⟨some 15, .faddr 5 (.t 1), none⟩,
   ⟨some 16, .load false 1 (.t 15), none⟩,
   ⟨some 17, .faddr 5 (.t 3), none⟩,
   ⟨none, .store 1 (.t 17) (.t 16), none⟩]) (
 .seq (
 .reg [
   ⟨some 18, .faddr 6 (.t 1), none⟩,
   ⟨some 19, .load false 1 (.t 18), none⟩,
   ⟨some 20, .call 25 [.t 19], none⟩,
   ⟨some 21, .faddr 6 (.t 3), none⟩,
   ⟨none, .store 1 (.t 21) (.t 20), none⟩]) (
 .seq (
 .reg [
   ⟨some 22, .faddr 7 (.t 1), none⟩,
   ⟨some 23, .load false 1 (.t 22), none⟩,
   ⟨some 24, .call 26 [.t 23], none⟩,
   ⟨some 25, .faddr 7 (.t 3), none⟩,
   ⟨none, .store 1 (.t 25) (.t 24), none⟩]) (
 .seq (
 .reg [
   ⟨some 26, .load true 8 (.t 3), none⟩,
   ⟨none, .store 8 (.t 2) (.t 26), none⟩]) (
 .ret)))))))))
theorem ok9 : chkFn Tryz.prog 9 ir9 1 [.c 2 true 8] = true := by kernel_rfl

/-- loop.example/g00779/laws.eqPipe -/
def ir11 : PC :=
 .seq (
 .reg [
   ⟨some 2, .box (.t 0), none⟩,
   ⟨some 3, .box (.t 1), none⟩,
   ⟨some 4, .mov (.k (.val (.bool false))), none⟩]) (
 .seq (
 .seq (
 .reg [
   ⟨some 5, .faddr 0 (.t 2), none⟩,
   ⟨some 6, .load false 1 (.t 5), none⟩,
   ⟨some 7, .faddr 0 (.t 3), none⟩,
   ⟨some 8, .load false 1 (.t 7), none⟩,
   ⟨some 9, .call 35 [.t 6, .t 8], none⟩,
   ⟨some 10, .un .not (.t 9), none⟩]) (
 .cond (.t 10) (
  .seq (
  .reg [
    ⟨some 4, .mov (.k (.val (.bool false))), none⟩]) (
  .ret)) (
  .skip))) (
 .seq (
 .seq (
 .reg [
   ⟨some 11, .faddr 1 (.t 2), none⟩,
   ⟨some 12, .load true 3 (.t 11), none⟩,
   ⟨some 13, .faddr 1 (.t 3), none⟩,
   ⟨some 14, .load true 3 (.t 13), none⟩,
   ⟨some 15, .call 36 [.t 12, .t 14], none⟩,
   ⟨some 16, .un .not (.t 15), none⟩]) (
 .cond (.t 16) (
  .seq (
  .reg [
    ⟨some 4, .mov (.k (.val (.bool false))), none⟩]) (
  .ret)) (
  .skip))) (
 .seq (
 .seq (
 .reg [
   ⟨some 17, .faddr 4 (.t 2), none⟩,
   ⟨some 18, .load false 1 (.t 17), none⟩,
   ⟨some 19, .faddr 4 (.t 3), none⟩,
   ⟨some 20, .load false 1 (.t 19), none⟩,
   ⟨some 21, .bin .neq (.t 18) (.t 20), none⟩]) (
 .cond (.t 21) (
  .seq (
  .reg [
    ⟨some 4, .mov (.k (.val (.bool false))), none⟩]) (
  .ret)) (
  .skip))) (
 .seq (
 .seq (
 .reg [
   ⟨some 22, .faddr 5 (.t 2), none⟩,
   ⟨some 23, .load false 1 (.t 22), none⟩,
   ⟨some 24, .faddr 5 (.t 3), none⟩,
   ⟨some 25, .load false 1 (.t 24), none⟩,
   ⟨some 26, .bin .neq (.t 23) (.t 25), none⟩]) (
 .cond (.t 26) (
  .seq (
  .reg [
    ⟨some 4, .mov (.k (.val (.bool false))), none⟩]) (
  .ret)) (
  .skip))) (
 .seq (
 .seq (
 .reg [
   ⟨some 27, .faddr 6 (.t 2), none⟩,
   ⟨some 28, .load false 1 (.t 27), none⟩,
   ⟨some 29, .faddr 6 (.t 3), none⟩,
   ⟨some 30, .load false 1 (.t 29), none⟩,
   ⟨some 31, .call 37 [.t 28, .t 30], none⟩,
   ⟨some 32, .un .not (.t 31), none⟩]) (
 .cond (.t 32) (
  .seq (
  .reg [
    ⟨some 4, .mov (.k (.val (.bool false))), none⟩]) (
  .ret)) (
  .skip))) (
 .seq (
 .seq (
 .reg [
   ⟨some 33, .faddr 7 (.t 2), none⟩,
   ⟨some 34, .load false 1 (.t 33), none⟩,
   ⟨some 35, .faddr 7 (.t 3), none⟩,
   ⟨some 36, .load false 1 (.t 35), none⟩,
   ⟨some 37, .call 38 [.t 34, .t 36], none⟩,
   ⟨some 38, .un .not (.t 37), none⟩]) (
 .cond (.t 38) (
  .seq (
  .reg [
    ⟨some 4, .mov (.k (.val (.bool false))), none⟩]) (
  .ret)) (
  .skip))) (
 .seq (
 .reg [
   ⟨some 4, .mov (.k (.val (.bool true))), none⟩]) (
 .ret))))))))
theorem ok11 : chkFn Tryz.prog 11 ir11 2 [.t 4] = true := by kernel_rfl

end Go.Proofs
end

/- Functions of the seat as data. MADE BY PROGRAM (print_ir.py). -/
section
set_option maxRecDepth 100000
namespace Go.Proofs
open Go.PW

/-- loop.example/g00779/spec.l06Report -/
def ir142 : PC :=
 .seq (
 .reg [
   ⟨some 1, .box (.t 0), none⟩,
   ⟨some 2, .mov (.k (.val (.bool false))), none⟩]) (
 .seq (
 .reg [
   ⟨some 3, .faddr 0 (.t 1), none⟩,
   ⟨some 4, .load false 1 (.t 3), none⟩,
   ⟨some 5, .call 56 [.t 4, .k (.val (.int .i64 1)), .k (.val (.int .i64 1000000))], none⟩,
   ⟨some 6, .mov (.t 5), none⟩,
   ⟨some 7, .faddr 1 (.t 1), some (6, true)⟩,
   ⟨some 8, .load false 1 (.t 7), some (6, true)⟩,
   ⟨some 9, .call 56 [.t 8, .k (.val (.int .i64 0)), .k (.val (.int .i64 1000000))], some (6, true)⟩,
   ⟨some 10, .pick (.t 6) (.t 9) (.k (.val (.bool false))), none⟩,
   ⟨some 11, .mov (.t 10), none⟩,
   ⟨some 12, .faddr 2 (.t 1), some (11, true)⟩,
   ⟨some 13, .load false 1 (.t 12), some (11, true)⟩,
   ⟨some 14, .call 56 [.t 13, .k (.val (.int .i64 0)), .k (.val (.int .i64 3))], some (11, true)⟩,
   ⟨some 15, .pick (.t 11) (.t 14) (.k (.val (.bool false))), none⟩,
   ⟨some 16, .mov (.t 15), none⟩,
   ⟨some 17, .faddr 3 (.t 1), some (16, true)⟩,
   ⟨some 18, .load false 1 (.t 17), some (16, true)⟩,
   ⟨some 19, .lens (.t 18), some (16, true)⟩,
   ⟨some 20, .call 56 [.t 19, .k (.val (.int .i64 1)), .k (.val (.int .i64 8000))], some (16, true)⟩,
   ⟨some 21, .pick (.t 16) (.t 20) (.k (.val (.bool false))), none⟩,
   ⟨some 2, .mov (.t 21), none⟩]) (
 .ret))
theorem ok142 : chkFn Tryz.prog 142 ir142 1 [.t 2] = true := by kernel_rfl

/-- loop.example/g00779/spec.l06OK -/
def ir104 : PC :=
 .seq (
 .reg [
   ⟨some 1, .box (.t 0), none⟩,
   ⟨some 2, .mov (.k (.val (.bool false))), none⟩]) (
 .seq (
 .seq (
 .reg [
   ⟨some 5, .faddr 0 (.t 1), none⟩,
   ⟨some 6, .load false 1 (.t 5), none⟩,
   ⟨some 7, .len (.t 6), none⟩,
   ⟨some 8, .bin .gtr (.t 7) (.k (.val (.int .i64 5))), none⟩,
   ⟨some 9, .mov (.t 8), none⟩,
   ⟨some 10, .faddr 1 (.t 1), some (9, false)⟩,
   ⟨some 11, .load false 1 (.t 10), some (9, false)⟩,
   ⟨some 12, .len (.t 11), some (9, false)⟩,
   ⟨some 13, .bin .gtr (.t 12) (.k (.val (.int .i64 6))), some (9, false)⟩,
   ⟨some 14, .pick (.t 9) (.k (.val (.bool true))) (.t 13), none⟩]) (
 .cond (.t 14) (
  .seq (
  .reg [
    ⟨some 2, .mov (.k (.val (.bool false))), none⟩]) (
  .ret)) (
  .skip))) (
 .seq (
 .seq (
 .reg [
   ⟨some 3, .mov (.k (.val (.int .i64 0))), none⟩]) (
 .block 0 (
  .loop (.ghost (
   .seq (
   .seq (
   .reg [
     ⟨some 15, .mov (.t 3), none⟩,
     ⟨some 16, .faddr 0 (.t 1), none⟩,
     ⟨some 17, .load false 1 (.t 16), none⟩,
     ⟨some 18, .len (.t 17), none⟩,
     ⟨some 19, .bin .lss (.t 15) (.t 18), none⟩]) (
   .cond (.t 19) (
    .skip) (
    .exit 0))) (
   .seq (
   .block 1 (
    .seq (
    .draw [
      ⟨some 22, .faddr 0 (.t 1), none⟩,
      ⟨some 23, .load false 1 (.t 22), none⟩,
      ⟨some 24, .mov (.t 3), none⟩,
      ⟨some 25, .iaddr 4 (.t 23) (.t 24), none⟩,
      ⟨some 26, .load true 4 (.t 25), none⟩,
      ⟨some 27, .call 142 [.t 26], none⟩,
      ⟨some 28, .un .not (.t 27), none⟩,
      ⟨some 29, .mov (.t 28), none⟩,
      ⟨some 30, .mov (.t 3), some (29, false)⟩,
      ⟨some 31, .bin .gtr (.t 30) (.k (.val (.int .i64 0))), some (29, false)⟩,
      ⟨some 32, .mov (.t 31), some (29, false)⟩,
      ⟨some 33, .faddr 0 (.t 1), some (32, true)⟩,
      ⟨some 34, .load false 1 (.t 33), some (32, true)⟩,
      ⟨some 35, .mov (.t 3), some (32, true)⟩,
      ⟨some 36, .iaddr 4 (.t 34) (.t 35), some (32, true)⟩,
      ⟨some 37, .faddr 0 (.t 36), some (32, true)⟩,
      ⟨some 38, .load false 1 (.t 37), some (32, true)⟩,
      ⟨some 39, .faddr 0 (.t 1), some (32, true)⟩,
      ⟨some 40, .load false 1 (.t 39), some (32, true)⟩,
      ⟨some 41, .mov (.t 3), some (32, true)⟩,
      ⟨some 42, .bin .sub (.t 41) (.k (.val (.int .i64 1))), some (32, true)⟩,
      ⟨some 43, .iaddr 4 (.t 40) (.t 42), some (32, true)⟩,
      ⟨some 44, .faddr 0 (.t 43), some (32, true)⟩,
      ⟨some 45, .load false 1 (.t 44), some (32, true)⟩,
      ⟨some 46, .bin .leq (.t 38) (.t 45), some (32, true)⟩,
      ⟨some 47, .mov (.t 46), some (32, true)⟩,
      ⟨some 48, .faddr 0 (.t 1), some (47, false)⟩,
      ⟨some 49, .load false 1 (.t 48), some (47, false)⟩,
      ⟨some 50, .mov (.t 3), some (47, false)⟩,
      ⟨some 51, .iaddr 4 (.t 49) (.t 50), some (47, false)⟩,
      ⟨some 52, .faddr 1 (.t 51), some (47, false)⟩,
      ⟨some 53, .load false 1 (.t 52), some (47, false)⟩,
      ⟨some 54, .faddr 0 (.t 1), some (47, false)⟩,
      ⟨some 55, .load false 1 (.t 54), some (47, false)⟩,
      ⟨some 56, .mov (.t 3), some (47, false)⟩,
      ⟨some 57, .bin .sub (.t 56) (.k (.val (.int .i64 1))), some (47, false)⟩,
      ⟨some 58, .iaddr 4 (.t 55) (.t 57), some (47, false)⟩,
      ⟨some 59, .faddr 1 (.t 58), some (47, false)⟩,
      ⟨some 60, .load false 1 (.t 59), some (47, false)⟩,
      ⟨some 61, .bin .lss (.t 53) (.t 60), some (47, false)⟩,
      ⟨some 62, .pick (.t 47) (.k (.val (.bool true))) (.t 61), some (32, true)⟩,
      ⟨some 63, .pick (.t 32) (.t 62) (.k (.val (.bool false))), some (29, false)⟩,
      ⟨some 64, .pick (.t 29) (.k (.val (.bool true))) (.t 63), none⟩] []) (
    .cond (.t 64) (
     .seq (
     .reg [
       ⟨some 2, .mov (.k (.val (.bool false))), none⟩]) (
     .ret)) (
     .skip)))) (
   .reg [
     ⟨some 20, .mov (.t 3), none⟩,
     ⟨some 21, .bin .add (.t 20) (.k (.val (.int .i64 1))), none⟩,
     ⟨some 3, .mov (.t 21), none⟩]))))))) (
 .seq (
 .seq (
 .reg [
   ⟨some 4, .mov (.k (.val (.int .i64 0))), none⟩]) (
 .block 2 (
  .loop (.ghost (
   .seq (
   .seq (
   .reg [
     ⟨some 65, .mov (.t 4), none⟩,
     ⟨some 66, .faddr 1 (.t 1), none⟩,
     ⟨some 67, .load false 1 (.t 66), none⟩,
     ⟨some 68, .len (.t 67), none⟩,
     ⟨some 69, .bin .lss (.t 65) (.t 68), none⟩]) (
   .cond (.t 69) (
    .skip) (
    .exit 2))) (
   .seq (
   .block 3 (
    .seq (
    .draw [
      ⟨some 72, .faddr 1 (.t 1), none⟩,
      ⟨some 73, .load false 1 (.t 72), none⟩,
      ⟨some 74, .mov (.t 4), none⟩,
      ⟨some 75, .iaddr 1 (.t 73) (.t 74), none⟩,
      ⟨some 76, .load false 1 (.t 75), none⟩,
      ⟨some 77, .lens (.t 76), none⟩,
      ⟨some 78, .call 56 [.t 77, .k (.val (.int .i64 1)), .k (.val (.int .i64 8000))], none⟩,
      ⟨some 79, .un .not (.t 78), none⟩,
      ⟨some 80, .mov (.t 79), none⟩,
      ⟨some 81, .faddr 1 (.t 1), some (80, false)⟩,
      ⟨some 82, .load false 1 (.t 81), some (80, false)⟩,
      ⟨some 83, .mov (.t 4), some (80, false)⟩,
      ⟨some 84, .slc 1 (.t 82) none (some (.t 83)), some (80, false)⟩,
      ⟨some 85, .faddr 1 (.t 1), some (80, false)⟩,
      ⟨some 86, .load false 1 (.t 85), some (80, false)⟩,
      ⟨some 87, .mov (.t 4), some (80, false)⟩,
      ⟨some 88, .iaddr 1 (.t 86) (.t 87), some (80, false)⟩,
      ⟨some 89, .load false 1 (.t 88), some (80, false)⟩,
      ⟨some 90, .call 140 [.t 84, .t 89], some (80, false)⟩,
      ⟨some 91, .pick (.t 80) (.k (.val (.bool true))) (.t 90), none⟩] []) (
    .cond (.t 91) (
     .seq (
     .reg [
       ⟨some 2, .mov (.k (.val (.bool false))), none⟩]) (
     .ret)) (
     .skip)))) (
   .reg [
     ⟨some 70, .mov (.t 4), none⟩,
     ⟨some 71, .bin .add (.t 70) (.k (.val (.int .i64 1))), none⟩,
     ⟨some 4, .mov (.t 71), none⟩]))))))) (
 .seq (
 .reg [
   ⟨some 2, .mov (.k (.val (.bool true))), none⟩]) (
 .ret)))))
theorem ok104 : chkFn Tryz.prog 104 ir104 1 [.t 2] = true := by kernel_rfl

/-- loop.example/g00779/spec.l08At -/
def ir39 : PC :=
 .seq (
 .reg [
   ⟨some 4, .mov (.k (.val (.int .i64 0))), none⟩]) (
 .seq (
 .seq (
 .reg [
   ⟨some 5, .mov (.k (.val (.int .i64 0))), none⟩]) (
 .block 0 (
  .loop (.ghost (
   .seq (
   .seq (
   .reg [
     ⟨some 6, .mov (.t 5), none⟩,
     ⟨some 7, .mov (.t 0), none⟩,
     ⟨some 8, .len (.t 7), none⟩,
     ⟨some 9, .bin .lss (.t 6) (.t 8), none⟩]) (
   .cond (.t 9) (
    .skip) (
    .exit 0))) (
   .seq (
   .block 1 (
    .seq (
    .reg [
      ⟨some 12, .mov (.t 0), none⟩,
      ⟨some 13, .mov (.t 5), none⟩,
      ⟨some 14, .iaddr 6 (.t 12) (.t 13), none⟩,
      ⟨some 15, .faddr 0 (.t 14), none⟩,
      ⟨some 16, .faddr 0 (.t 15), none⟩,
      ⟨some 17, .load false 1 (.t 16), none⟩,
      ⟨some 18, .mov (.t 1), none⟩,
      ⟨some 19, .bin .eql (.t 17) (.t 18), none⟩]) (
    .cond (.t 19) (
     .seq (
     .reg [
       ⟨some 20, .mov (.t 5), none⟩,
       ⟨some 4, .mov (.t 20), none⟩]) (
     .ret)) (
     .skip)))) (
   .reg [
     ⟨some 10, .mov (.t 5), none⟩,
     ⟨some 11, .bin .add (.t 10) (.k (.val (.int .i64 1))), none⟩,
     ⟨some 5, .mov (.t 11), none⟩]))))))) (
 .seq (
 .reg [
   ⟨some 4, .mov (.k (.val (.int .i64 (-1)))), none⟩]) (
 .ret)))
theorem ok39 : chkFn Tryz.prog 39 ir39 2 [.t 4] = true := by kernel_rfl

/-- loop.example/g00779/spec.l08Channel -/
def ir57 : PC :=
 .seq (
 .reg [
   ⟨some 2, .box (.t 0), none⟩,
   ⟨some 3, .box (.t 1), none⟩,
   ⟨some 4, .mov (.k (.val (.bool false))), none⟩]) (
 .seq (
 .seq (
 .reg [
   ⟨some 8, .faddr 0 (.t 3), none⟩,
   ⟨some 9, .load true 3 (.t 8), none⟩,
   ⟨some 10, .call 103 [.t 9], none⟩,
   ⟨some 11, .un .not (.t 10), none⟩,
   ⟨some 12, .mov (.t 11), none⟩,
   ⟨some 13, .faddr 3 (.t 3), some (12, false)⟩,
   ⟨some 14, .load false 1 (.t 13), some (12, false)⟩,
   ⟨some 15, .call 86 [.t 14], some (12, false)⟩,
   ⟨some 16, .un .not (.t 15), some (12, false)⟩,
   ⟨some 17, .pick (.t 12) (.k (.val (.bool true))) (.t 16), none⟩,
   ⟨some 18, .mov (.t 17), none⟩,
   ⟨some 19, .faddr 3 (.t 3), some (18, false)⟩,
   ⟨some 20, .load false 1 (.t 19), some (18, false)⟩,
   ⟨some 21, .len (.t 20), some (18, false)⟩,
   ⟨some 22, .faddr 0 (.t 3), some (18, false)⟩,
   ⟨some 23, .faddr 2 (.t 22), some (18, false)⟩,
   ⟨some 24, .load false 1 (.t 23), some (18, false)⟩,
   ⟨some 25, .len (.t 24), some (18, false)⟩,
   ⟨some 26, .bin .neq (.t 21) (.t 25), some (18, false)⟩,
   ⟨some 27, .pick (.t 18) (.k (.val (.bool true))) (.t 26), none⟩,
   ⟨some 28, .mov (.t 27), none⟩,
   ⟨some 29, .faddr 4 (.t 3), some (28, false)⟩,
   ⟨some 30, .load true 2 (.t 29), some (28, false)⟩,
   ⟨some 31, .call 104 [.t 30], some (28, false)⟩,
   ⟨some 32, .un .not (.t 31), some (28, false)⟩,
   ⟨some 33, .pick (.t 28) (.k (.val (.bool true))) (.t 32), none⟩]) (
 .cond (.t 33) (
  .seq (
  .reg [
    ⟨some 4, .mov (.k (.val (.bool false))), none⟩]) (
  .ret)) (
  .skip))) (
 .seq (
 .seq (
 .reg [
   ⟨some 5, .mov (.k (.val (.int .i64 0))), none⟩]) (
 .block 0 (
  .loop (.ghost (
   .seq (
   .seq (
   .reg [
     ⟨some 34, .mov (.t 5), none⟩,
     ⟨some 35, .faddr 3 (.t 3), none⟩,
     ⟨some 36, .load false 1 (.t 35), none⟩,
     ⟨some 37, .len (.t 36), none⟩,
     ⟨some 38, .bin .lss (.t 34) (.t 37), none⟩]) (
   .cond (.t 38) (
    .skip) (
    .exit 0))) (
   .seq (
   .block 1 (
    .seq (
    .draw [
      ⟨some 41, .faddr 3 (.t 3), none⟩,
      ⟨some 42, .load false 1 (.t 41), none⟩,
      ⟨some 43, .mov (.t 5), none⟩,
      ⟨some 44, .iaddr 6 (.t 42) (.t 43), none⟩,
      ⟨some 45, .faddr 0 (.t 44), none⟩,
      ⟨some 46, .load true 3 (.t 45), none⟩,
      ⟨some 47, .faddr 0 (.t 3), none⟩,
      ⟨some 48, .faddr 2 (.t 47), none⟩,
      ⟨some 49, .load false 1 (.t 48), none⟩,
      ⟨some 50, .mov (.t 5), none⟩,
      ⟨some 51, .iaddr 3 (.t 49) (.t 50), none⟩,
      ⟨some 52, .load true 3 (.t 51), none⟩,
      ⟨some 53, .eqs true [0, 2, 2] (.t 46) (.t 52), none⟩] []) (
    .cond (.t 53) (
     .seq (
     .reg [
       ⟨some 4, .mov (.k (.val (.bool false))), none⟩]) (
     .ret)) (
     .skip)))) (
   .reg [
     ⟨some 39, .mov (.t 5), none⟩,
     ⟨some 40, .bin .add (.t 39) (.k (.val (.int .i64 1))), none⟩,
     ⟨some 5, .mov (.t 40), none⟩]))))))) (
 .seq (
 .seq (
 .reg [
   ⟨some 6, .mov (.k (.val (.int .i64 0))), none⟩]) (
 .block 2 (
  .loop (.ghost (
   .seq (
   .seq (
   .reg [
     ⟨some 54, .mov (.t 6), none⟩,
     ⟨some 55, .faddr 4 (.t 3), none⟩,
     ⟨some 56, .faddr 0 (.t 55), none⟩,
     ⟨some 57, .load false 1 (.t 56), none⟩,
     ⟨some 58, .len (.t 57), none⟩,
     ⟨some 59, .bin .lss (.t 54) (.t 58), none⟩]) (
   .cond (.t 59) (
    .skip) (
    .exit 2))) (
   .seq (
   .block 3 (
    .seq (
    .reg [
      ⟨some 62, .faddr 4 (.t 3), none⟩,
      ⟨some 63, .faddr 0 (.t 62), none⟩,
      ⟨some 64, .load false 1 (.t 63), none⟩,
      ⟨some 65, .mov (.t 6), none⟩,
      ⟨some 66, .iaddr 4 (.t 64) (.t 65), none⟩,
      ⟨some 67, .load true 4 (.t 66), none⟩,
      ⟨some 7, .alloc [.val (.int .i64 0), .val (.int .i64 0), .val (.int .i64 0), .val (.str ⟨#[]⟩)], none⟩,
      ⟨none, .store 4 (.t 7) (.t 67), none⟩]) (
    .seq (
    .reg [
      ⟨some 68, .faddr 0 (.t 7), none⟩,
      ⟨some 69, .load false 1 (.t 68), none⟩,
      ⟨some 70, .faddr 5 (.t 2), none⟩,
      ⟨some 71, .load false 1 (.t 70), none⟩,
      ⟨some 72, .bin .geq (.t 69) (.t 71), none⟩,
      ⟨some 73, .mov (.t 72), none⟩,
      ⟨some 74, .faddr 1 (.t 7), some (73, false)⟩,
      ⟨some 75, .load false 1 (.t 74), some (73, false)⟩,
      ⟨some 76, .faddr 4 (.t 2), some (73, false)⟩,
      ⟨some 77, .load false 1 (.t 76), some (73, false)⟩,
      ⟨some 78, .bin .gtr (.t 75) (.t 77), some (73, false)⟩,
      ⟨some 79, .pick (.t 73) (.k (.val (.bool true))) (.t 78), none⟩]) (
    .cond (.t 79) (
     .seq (
     .reg [
       ⟨some 4, .mov (.k (.val (.bool false))), none⟩]) (
     .ret)) (
     .skip))))) (
   .reg [
     ⟨some 60, .mov (.t 6), none⟩,
     ⟨some 61, .bin .add (.t 60) (.k (.val (.int .i64 1))), none⟩,
     ⟨some 6, .mov (.t 61), none⟩]))))))) (
 .seq (
 .reg [
   ⟨some 4, .mov (.k (.val (.bool true))), none⟩]) (
 .ret)))))
theorem ok57 : chkFn Tryz.prog 57 ir57 2 [.t 4] = true := by kernel_rfl

/-- loop.example/g00779/spec.l08Wire -/
def ir58 : PC :=
 .seq (
 .reg [
   ⟨some 2, .box (.t 0), none⟩,
   ⟨some 3, .box (.t 1), none⟩,
   ⟨some 4, .mov (.k (.val (.bool false))), none⟩]) (
 .seq (
 .seq (
 .reg [
   ⟨some 6, .faddr 0 (.t 3), none⟩,
   ⟨some 7, .load false 1 (.t 6), none⟩,
   ⟨some 8, .faddr 4 (.t 2), none⟩,
   ⟨some 9, .load false 1 (.t 8), none⟩,
   ⟨some 10, .call 56 [.t 7, .k (.val (.int .i64 0)), .t 9], none⟩,
   ⟨some 11, .un .not (.t 10), none⟩,
   ⟨some 12, .mov (.t 11), none⟩,
   ⟨some 13, .faddr 1 (.t 3), some (12, false)⟩,
   ⟨some 14, .load false 1 (.t 13), some (12, false)⟩,
   ⟨some 15, .call 56 [.t 14, .k (.val (.int .i64 100)), .k (.val (.int .i64 599))], some (12, false)⟩,
   ⟨some 16, .un .not (.t 15), some (12, false)⟩,
   ⟨some 17, .pick (.t 12) (.k (.val (.bool true))) (.t 16), none⟩,
   ⟨some 18, .mov (.t 17), none⟩,
   ⟨some 19, .faddr 2 (.t 3), some (18, false)⟩,
   ⟨some 20, .load false 1 (.t 19), some (18, false)⟩,
   ⟨some 21, .call 105 [.t 20], some (18, false)⟩,
   ⟨some 22, .un .not (.t 21), some (18, false)⟩,
   ⟨some 23, .pick (.t 18) (.k (.val (.bool true))) (.t 22), none⟩,
   ⟨some 24, .mov (.t 23), none⟩,
   ⟨some 25, .faddr 3 (.t 3), some (24, false)⟩,
   ⟨some 26, .load false 1 (.t 25), some (24, false)⟩,
   ⟨some 27, .lens (.t 26), some (24, false)⟩,
   ⟨some 28, .bin .gtr (.t 27) (.k (.val (.int .i64 100))), some (24, false)⟩,
   ⟨some 29, .pick (.t 24) (.k (.val (.bool true))) (.t 28), none⟩,
   ⟨some 30, .mov (.t 29), none⟩,
   ⟨some 31, .faddr 4 (.t 3), some (30, false)⟩,
   ⟨some 32, .load false 1 (.t 31), some (30, false)⟩,
   ⟨some 33, .len (.t 32), some (30, false)⟩,
   ⟨some 34, .call 56 [.t 33, .k (.val (.int .i64 1)), .k (.val (.int .i64 3))], some (30, false)⟩,
   ⟨some 35, .un .not (.t 34), some (30, false)⟩,
   ⟨some 36, .pick (.t 30) (.k (.val (.bool true))) (.t 35), none⟩,
   ⟨some 37, .mov (.t 36), none⟩,
   ⟨some 38, .faddr 5 (.t 3), some (37, false)⟩,
   ⟨some 39, .load false 1 (.t 38), some (37, false)⟩,
   ⟨some 40, .lens (.t 39), some (37, false)⟩,
   ⟨some 41, .bin .gtr (.t 40) (.k (.val (.int .i64 65536))), some (37, false)⟩,
   ⟨some 42, .pick (.t 37) (.k (.val (.bool true))) (.t 41), none⟩]) (
 .cond (.t 42) (
  .seq (
  .reg [
    ⟨some 4, .mov (.k (.val (.bool false))), none⟩]) (
  .ret)) (
  .skip))) (
 .seq (
 .seq (
 .reg [
   ⟨some 5, .mov (.k (.val (.int .i64 0))), none⟩]) (
 .block 0 (
  .loop (.ghost (
   .seq (
   .seq (
   .reg [
     ⟨some 43, .mov (.t 5), none⟩,
     ⟨some 44, .faddr 4 (.t 3), none⟩,
     ⟨some 45, .load false 1 (.t 44), none⟩,
     ⟨some 46, .len (.t 45), none⟩,
     ⟨some 47, .bin .lss (.t 43) (.t 46), none⟩]) (
   .cond (.t 47) (
    .skip) (
    .exit 0))) (
   .seq (
   .block 1 (
    .seq (
    .draw [
      ⟨some 50, .faddr 4 (.t 3), none⟩,
      ⟨some 51, .load false 1 (.t 50), none⟩,
      ⟨some 52, .mov (.t 5), none⟩,
      ⟨some 53, .iaddr 1 (.t 51) (.t 52), none⟩,
      ⟨some 54, .load false 1 (.t 53), none⟩,
      ⟨some 55, .faddr 5 (.t 2), none⟩,
      ⟨some 56, .load false 1 (.t 55), none⟩,
      ⟨some 57, .bin .sub (.t 56) (.k (.val (.int .i64 1))), none⟩,
      ⟨some 58, .call 56 [.t 54, .k (.val (.int .i64 1)), .t 57], none⟩,
      ⟨some 59, .un .not (.t 58), none⟩,
      ⟨some 60, .mov (.t 59), none⟩,
      ⟨some 61, .mov (.t 5), some (60, false)⟩,
      ⟨some 62, .bin .gtr (.t 61) (.k (.val (.int .i64 0))), some (60, false)⟩,
      ⟨some 63, .mov (.t 62), some (60, false)⟩,
      ⟨some 64, .faddr 4 (.t 3), some (63, true)⟩,
      ⟨some 65, .load false 1 (.t 64), some (63, true)⟩,
      ⟨some 66, .mov (.t 5), some (63, true)⟩,
      ⟨some 67, .iaddr 1 (.t 65) (.t 66), some (63, true)⟩,
      ⟨some 68, .load false 1 (.t 67), some (63, true)⟩,
      ⟨some 69, .faddr 4 (.t 3), some (63, true)⟩,
      ⟨some 70, .load false 1 (.t 69), some (63, true)⟩,
      ⟨some 71, .mov (.t 5), some (63, true)⟩,
      ⟨some 72, .bin .sub (.t 71) (.k (.val (.int .i64 1))), some (63, true)⟩,
      ⟨some 73, .iaddr 1 (.t 70) (.t 72), some (63, true)⟩,
      ⟨some 74, .load false 1 (.t 73), some (63, true)⟩,
      ⟨some 75, .bin .leq (.t 68) (.t 74), some (63, true)⟩,
      ⟨some 76, .pick (.t 63) (.t 75) (.k (.val (.bool false))), some (60, false)⟩,
      ⟨some 77, .pick (.t 60) (.k (.val (.bool true))) (.t 76), none⟩] []) (
    .cond (.t 77) (
     .seq (
     .reg [
       ⟨some 4, .mov (.k (.val (.bool false))), none⟩]) (
     .ret)) (
     .skip)))) (
   .reg [
     ⟨some 48, .mov (.t 5), none⟩,
     ⟨some 49, .bin .add (.t 48) (.k (.val (.int .i64 1))), none⟩,
     ⟨some 5, .mov (.t 49), none⟩]))))))) (
 .seq (
 .reg [
   ⟨some 4, .mov (.k (.val (.bool true))), none⟩]) (
 .ret))))
theorem ok58 : chkFn Tryz.prog 58 ir58 2 [.t 4] = true := by kernel_rfl

/-- loop.example/g00779/spec.l08OK -/
def ir22 : PC :=
 .seq (
 .reg [
   ⟨some 1, .box (.t 0), none⟩,
   ⟨some 2, .mov (.k (.val (.bool false))), none⟩]) (
 .seq (
 .seq (
 .reg [
   ⟨some 7, .faddr 0 (.t 1), none⟩,
   ⟨some 8, .load false 1 (.t 7), none⟩,
   ⟨some 9, .len (.t 8), none⟩,
   ⟨some 10, .bin .gtr (.t 9) (.k (.val (.int .i64 5))), none⟩,
   ⟨some 11, .mov (.t 10), none⟩,
   ⟨some 12, .faddr 1 (.t 1), some (11, false)⟩,
   ⟨some 13, .load true 3 (.t 12), some (11, false)⟩,
   ⟨some 14, .call 55 [.t 13], some (11, false)⟩,
   ⟨some 15, .un .not (.t 14), some (11, false)⟩,
   ⟨some 16, .pick (.t 11) (.k (.val (.bool true))) (.t 15), none⟩,
   ⟨some 17, .mov (.t 16), none⟩,
   ⟨some 18, .faddr 4 (.t 1), some (17, false)⟩,
   ⟨some 19, .load false 1 (.t 18), some (17, false)⟩,
   ⟨some 20, .call 56 [.t 19, .k (.val (.int .i64 0)), .k (.val (.int .i64 1000000))], some (17, false)⟩,
   ⟨some 21, .un .not (.t 20), some (17, false)⟩,
   ⟨some 22, .pick (.t 17) (.k (.val (.bool true))) (.t 21), none⟩,
   ⟨some 23, .mov (.t 22), none⟩,
   ⟨some 24, .faddr 5 (.t 1), some (23, false)⟩,
   ⟨some 25, .load false 1 (.t 24), some (23, false)⟩,
   ⟨some 26, .call 56 [.t 25, .k (.val (.int .i64 1)), .k (.val (.int .i64 1000000))], some (23, false)⟩,
   ⟨some 27, .un .not (.t 26), some (23, false)⟩,
   ⟨some 28, .pick (.t 23) (.k (.val (.bool true))) (.t 27), none⟩,
   ⟨some 29, .mov (.t 28), none⟩,
   ⟨some 30, .faddr 6 (.t 1), some (29, false)⟩,
   ⟨some 31, .load false 1 (.t 30), some (29, false)⟩,
   ⟨some 32, .len (.t 31), some (29, false)⟩,
   ⟨some 33, .bin .gtr (.t 32) (.k (.val (.int .i64 4096))), some (29, false)⟩,
   ⟨some 34, .pick (.t 29) (.k (.val (.bool true))) (.t 33), none⟩,
   ⟨some 35, .mov (.t 34), none⟩,
   ⟨some 36, .faddr 7 (.t 1), some (35, false)⟩,
   ⟨some 37, .load false 1 (.t 36), some (35, false)⟩,
   ⟨some 38, .len (.t 37), some (35, false)⟩,
   ⟨some 39, .bin .gtr (.t 38) (.k (.val (.int .i64 4096))), some (35, false)⟩,
   ⟨some 40, .pick (.t 35) (.k (.val (.bool true))) (.t 39), none⟩]) (
 .cond (.t 40) (
  .seq (
  .reg [
    ⟨some 2, .mov (.k (.val (.bool false))), none⟩]) (
  .ret)) (
  .skip))) (
 .seq (
 .seq (
 .reg [
   ⟨some 3, .mov (.k (.val (.int .i64 0))), none⟩]) (
 .block 0 (
  .loop (.ghost (
   .seq (
   .seq (
   .reg [
     ⟨some 41, .mov (.t 3), none⟩,
     ⟨some 42, .faddr 0 (.t 1), none⟩,
     ⟨some 43, .load false 1 (.t 42), none⟩,
     ⟨some 44, .len (.t 43), none⟩,
     ⟨some 45, .bin .lss (.t 41) (.t 44), none⟩]) (
   .cond (.t 45) (
    .skip) (
    .exit 0))) (
   .seq (
   .block 1 (
    .seq (
    .draw [
      ⟨some 48, .faddr 0 (.t 1), none⟩,
      ⟨some 49, .load false 1 (.t 48), none⟩,
      ⟨some 50, .faddr 0 (.t 1), none⟩,
      ⟨some 51, .load false 1 (.t 50), none⟩,
      ⟨some 52, .mov (.t 3), none⟩,
      ⟨some 53, .iaddr 6 (.t 51) (.t 52), none⟩,
      ⟨some 54, .faddr 0 (.t 53), none⟩,
      ⟨some 55, .faddr 0 (.t 54), none⟩,
      ⟨some 56, .load false 1 (.t 55), none⟩,
      ⟨some 57, .call 39 [.t 49, .t 56], none⟩,
      ⟨some 58, .mov (.t 3), none⟩,
      ⟨some 59, .bin .neq (.t 57) (.t 58), none⟩,
      ⟨some 60, .mov (.t 59), none⟩,
      ⟨some 61, .load true 8 (.t 1), some (60, false)⟩,
      ⟨some 62, .faddr 0 (.t 1), some (60, false)⟩,
      ⟨some 63, .load false 1 (.t 62), some (60, false)⟩,
      ⟨some 64, .mov (.t 3), some (60, false)⟩,
      ⟨some 65, .iaddr 6 (.t 63) (.t 64), some (60, false)⟩,
      ⟨some 66, .load true 6 (.t 65), some (60, false)⟩,
      ⟨some 67, .call 57 [.t 61, .t 66], some (60, false)⟩,
      ⟨some 68, .un .not (.t 67), some (60, false)⟩,
      ⟨some 69, .pick (.t 60) (.k (.val (.bool true))) (.t 68), none⟩] []) (
    .cond (.t 69) (
     .seq (
     .reg [
       ⟨some 2, .mov (.k (.val (.bool false))), none⟩]) (
     .ret)) (
     .skip)))) (
   .reg [
     ⟨some 46, .mov (.t 3), none⟩,
     ⟨some 47, .bin .add (.t 46) (.k (.val (.int .i64 1))), none⟩,
     ⟨some 3, .mov (.t 47), none⟩]))))))) (
 .seq (
 .seq (
 .reg [
   ⟨some 4, .mov (.k (.val (.int .i64 0))), none⟩]) (
 .block 2 (
  .loop (.ghost (
   .seq (
   .seq (
   .reg [
     ⟨some 70, .mov (.t 4), none⟩,
     ⟨some 71, .faddr 6 (.t 1), none⟩,
     ⟨some 72, .load false 1 (.t 71), none⟩,
     ⟨some 73, .len (.t 72), none⟩,
     ⟨some 74, .bin .lss (.t 70) (.t 73), none⟩]) (
   .cond (.t 74) (
    .skip) (
    .exit 2))) (
   .seq (
   .block 3 (
    .seq (
    .reg [
      ⟨some 77, .faddr 6 (.t 1), none⟩,
      ⟨some 78, .load false 1 (.t 77), none⟩,
      ⟨some 79, .mov (.t 4), none⟩,
      ⟨some 80, .iaddr 3 (.t 78) (.t 79), none⟩,
      ⟨some 81, .load true 3 (.t 80), none⟩,
      ⟨some 5, .alloc [.val (.int .i64 0), .val (.int .i64 0), .val (.int .i64 0)], none⟩,
      ⟨none, .store 3 (.t 5) (.t 81), none⟩]) (
    .seq (
    .draw [
      ⟨some 82, .faddr 0 (.t 5), none⟩,
      ⟨some 83, .load false 1 (.t 82), none⟩,
      ⟨some 84, .call 56 [.t 83, .k (.val (.int .i64 1)), .k (.val (.int .i64 7))], none⟩,
      ⟨some 85, .un .not (.t 84), none⟩,
      ⟨some 86, .mov (.t 85), none⟩,
      ⟨some 87, .faddr 1 (.t 5), some (86, false)⟩,
      ⟨some 88, .load false 1 (.t 87), some (86, false)⟩,
      ⟨some 89, .faddr 5 (.t 1), some (86, false)⟩,
      ⟨some 90, .load false 1 (.t 89), some (86, false)⟩,
      ⟨some 91, .bin .sub (.t 90) (.k (.val (.int .i64 1))), some (86, false)⟩,
      ⟨some 92, .call 56 [.t 88, .k (.val (.int .i64 1)), .t 91], some (86, false)⟩,
      ⟨some 93, .un .not (.t 92), some (86, false)⟩,
      ⟨some 94, .pick (.t 86) (.k (.val (.bool true))) (.t 93), none⟩,
      ⟨some 95, .mov (.t 94), none⟩,
      ⟨some 96, .faddr 2 (.t 5), some (95, false)⟩,
      ⟨some 97, .load false 1 (.t 96), some (95, false)⟩,
      ⟨some 98, .faddr 4 (.t 1), some (95, false)⟩,
      ⟨some 99, .load false 1 (.t 98), some (95, false)⟩,
      ⟨some 100, .call 56 [.t 97, .k (.val (.int .i64 0)), .t 99], some (95, false)⟩,
      ⟨some 101, .un .not (.t 100), some (95, false)⟩,
      ⟨some 102, .pick (.t 95) (.k (.val (.bool true))) (.t 101), none⟩,
      ⟨some 103, .mov (.t 102), none⟩,
      ⟨some 104, .mov (.t 4), some (103, false)⟩,
      ⟨some 105, .bin .gtr (.t 104) (.k (.val (.int .i64 0))), some (103, false)⟩,
      ⟨some 106, .mov (.t 105), some (103, false)⟩,
      ⟨some 107, .faddr 2 (.t 5), some (106, true)⟩,
      ⟨some 108, .load false 1 (.t 107), some (106, true)⟩,
      ⟨some 109, .faddr 6 (.t 1), some (106, true)⟩,
      ⟨some 110, .load false 1 (.t 109), some (106, true)⟩,
      ⟨some 111, .mov (.t 4), some (106, true)⟩,
      ⟨some 112, .bin .sub (.t 111) (.k (.val (.int .i64 1))), some (106, true)⟩,
      ⟨some 113, .iaddr 3 (.t 110) (.t 112), some (106, true)⟩,
      ⟨some 114, .faddr 2 (.t 113), some (106, true)⟩,
      ⟨some 115, .load false 1 (.t 114), some (106, true)⟩,
      ⟨some 116, .bin .lss (.t 108) (.t 115), some (106, true)⟩,
      ⟨some 117, .pick (.t 106) (.t 116) (.k (.val (.bool false))), some (103, false)⟩,
      ⟨some 118, .pick (.t 103) (.k (.val (.bool true))) (.t 117), none⟩] []) (
    .cond (.t 118) (
     .seq (
     .reg [
       ⟨some 2, .mov (.k (.val (.bool false))), none⟩]) (
     .ret)) (
     .skip))))) (
   .reg [
     ⟨some 75, .mov (.t 4), none⟩,
     ⟨some 76, .bin .add (.t 75) (.k (.val (.int .i64 1))), none⟩,
     ⟨some 4, .mov (.t 76), none⟩]))))))) (
 .seq (
 .seq (
 .reg [
   ⟨some 6, .mov (.k (.val (.int .i64 0))), none⟩]) (
 .block 4 (
  .loop (.ghost (
   .seq (
   .seq (
   .reg [
     ⟨some 119, .mov (.t 6), none⟩,
     ⟨some 120, .faddr 7 (.t 1), none⟩,
     ⟨some 121, .load false 1 (.t 120), none⟩,
     ⟨some 122, .len (.t 121), none⟩,
     ⟨some 123, .bin .lss (.t 119) (.t 122), none⟩]) (
   .cond (.t 123) (
    .skip) (
    .exit 4))) (
   .seq (
   .block 5 (
    .seq (
    .draw [
      ⟨some 126, .load true 8 (.t 1), none⟩,
      ⟨some 127, .faddr 7 (.t 1), none⟩,
      ⟨some 128, .load false 1 (.t 127), none⟩,
      ⟨some 129, .mov (.t 6), none⟩,
      ⟨some 130, .iaddr 7 (.t 128) (.t 129), none⟩,
      ⟨some 131, .load true 7 (.t 130), none⟩,
      ⟨some 132, .call 58 [.t 126, .t 131], none⟩,
      ⟨some 133, .un .not (.t 132), none⟩] []) (
    .cond (.t 133) (
     .seq (
     .reg [
       ⟨some 2, .mov (.k (.val (.bool false))), none⟩]) (
     .ret)) (
     .skip)))) (
   .reg [
     ⟨some 124, .mov (.t 6), none⟩,
     ⟨some 125, .bin .add (.t 124) (.k (.val (.int .i64 1))), none⟩,
     ⟨some 6, .mov (.t 125), none⟩]))))))) (
 .seq (
 .reg [
   ⟨some 2, .mov (.k (.val (.bool true))), none⟩]) (
 .ret))))))
theorem ok22 : chkFn Tryz.prog 22 ir22 1 [.t 2] = true := by kernel_rfl

/-- loop.example/g00779/spec.PipeOK -/
def ir8 : PC :=
 .seq (
 .reg [
   ⟨some 1, .box (.t 0), none⟩,
   ⟨some 2, .mov (.k (.val (.bool false))), none⟩]) (
 .seq (
 .reg [
   ⟨some 3, .load true 8 (.t 1), none⟩,
   ⟨some 4, .call 22 [.t 3], none⟩,
   ⟨some 2, .mov (.t 4), none⟩]) (
 .ret))
theorem ok8 : chkFn Tryz.prog 8 ir8 1 [.t 2] = true := by kernel_rfl

end Go.Proofs
end
