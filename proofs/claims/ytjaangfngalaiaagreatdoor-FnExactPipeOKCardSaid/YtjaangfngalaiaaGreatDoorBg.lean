/- Bg: merged out of IRaa, IRbb. -/
import Derived.Test.YtjaangfngalaiaaGreatDoorPWv
import Derived.Test.YtjaangfngalaiaaGreatDoorChecked
import Derived.KernelRfl

/- Functions of the seat as data. MADE BY PROGRAM (print_ir.py). -/
section
set_option maxRecDepth 100000
namespace Go.Proofs
open Go.PW

/-- loop.example/g00779/impl.isBody -/
def ir125 : PC :=
 .seq (
 .reg [
   ⟨some 2, .mov (.k (.val (.bool false))), none⟩]) (
 .seq (
 .reg [
   ⟨some 3, .mov (.t 0), none⟩,
   ⟨some 4, .lens (.t 3), none⟩,
   ⟨some 5, .call 29 [.t 4, .k (.val (.int .i64 1)), .k (.val (.int .i64 8000))], none⟩,
   ⟨some 2, .mov (.t 5), none⟩]) (
 .ret))
theorem ok125 : chkFn Tryz.prog 125 ir125 1 [.t 2] = true := by kernel_rfl

/-- loop.example/g00779/impl.ReportOK -/
def ir124 : PC :=
 .seq (
 .reg [
   ⟨some 1, .box (.t 0), none⟩,
   ⟨some 2, .mov (.k (.val (.bool false))), none⟩]) (
 .seq (
 .reg [
   ⟨some 3, .faddr 0 (.t 1), none⟩,
   ⟨some 4, .load false 1 (.t 3), none⟩,
   ⟨some 5, .call 29 [.t 4, .k (.val (.int .i64 1)), .k (.val (.int .i64 1000000))], none⟩,
   ⟨some 6, .mov (.t 5), none⟩,
   ⟨some 7, .faddr 1 (.t 1), some (6, true)⟩,
   ⟨some 8, .load false 1 (.t 7), some (6, true)⟩,
   ⟨some 9, .call 29 [.t 8, .k (.val (.int .i64 0)), .k (.val (.int .i64 1000000))], some (6, true)⟩,
   ⟨some 10, .pick (.t 6) (.t 9) (.k (.val (.bool false))), none⟩,
   ⟨some 11, .mov (.t 10), none⟩,
   ⟨some 12, .faddr 2 (.t 1), some (11, true)⟩,
   ⟨some 13, .load false 1 (.t 12), some (11, true)⟩,
   ⟨some 14, .call 29 [.t 13, .k (.val (.int .i64 0)), .k (.val (.int .i64 3))], some (11, true)⟩,
   ⟨some 15, .pick (.t 11) (.t 14) (.k (.val (.bool false))), none⟩,
   ⟨some 16, .mov (.t 15), none⟩,
   ⟨some 17, .faddr 3 (.t 1), some (16, true)⟩,
   ⟨some 18, .load false 1 (.t 17), some (16, true)⟩,
   ⟨some 19, .call 125 [.t 18], some (16, true)⟩,
   ⟨some 20, .pick (.t 16) (.t 19) (.k (.val (.bool false))), none⟩,
   ⟨some 2, .mov (.t 20), none⟩]) (
 .ret))
theorem ok124 : chkFn Tryz.prog 124 ir124 1 [.t 2] = true := by kernel_rfl

/-- loop.example/g00779/impl.QueueOK -/
def ir73 : PC :=
 .seq (
 .reg [
   ⟨some 1, .box (.t 0), none⟩,
   ⟨some 2, .mov (.k (.val (.bool false))), none⟩]) (
 .seq (
 .seq (
 .reg [
   ⟨some 7, .faddr 0 (.t 1), none⟩,
   ⟨some 8, .load false 1 (.t 7), none⟩,
   ⟨some 9, .len (.t 8), none⟩,
   ⟨some 10, .bin .gtr (.t 9) (.k (.val (.int .i64 5))), none⟩,
   ⟨some 11, .mov (.t 10), none⟩,
   ⟨some 12, .faddr 1 (.t 1), some (11, false)⟩,
   ⟨some 13, .load false 1 (.t 12), some (11, false)⟩,
   ⟨some 14, .len (.t 13), some (11, false)⟩,
   ⟨some 15, .bin .gtr (.t 14) (.k (.val (.int .i64 6))), some (11, false)⟩,
   ⟨some 16, .pick (.t 11) (.k (.val (.bool true))) (.t 15), none⟩]) (
 .cond (.t 16) (
  .seq (
  .reg [
    ⟨some 2, .mov (.k (.val (.bool false))), none⟩]) (
  .ret)) (
  .skip))) (
 .seq (
 .seq (
 .reg [
   ⟨some 17, .faddr 0 (.t 1), none⟩,
   ⟨some 18, .load false 1 (.t 17), none⟩,
   ⟨some 19, .len (.t 18), none⟩,
   ⟨some 20, .mov (.k (.val (.int .i64 0))), none⟩]) (
 .block 0 (
  .loop (.ghost (
   .seq (
   .reg [
     ⟨some 21, .bin .lss (.t 20) (.t 19), none⟩]) (
   .seq (
   .cond (.t 21) (
    .skip) (
    .exit 0)) (
   .seq (
   .block 1 (
    .seq (
    .reg [
      ⟨some 22, .mov (.t 20), none⟩,
      ⟨some 23, .iaddr 4 (.t 18) (.t 20), none⟩,
      ⟨some 24, .load true 4 (.t 23), none⟩,
      ⟨some 4, .alloc [.val (.int .i64 0), .val (.int .i64 0), .val (.int .i64 0), .val (.str ⟨#[]⟩)], none⟩,
      ⟨some 3, .mov (.t 22), none⟩,
      ⟨none, .store 4 (.t 4) (.t 24), none⟩]) (
    .seq (
    .draw [
      ⟨some 25, .load true 4 (.t 4), none⟩,
      ⟨some 26, .call 124 [.t 25], none⟩,
      ⟨some 27, .un .not (.t 26), none⟩,
      ⟨some 28, .mov (.t 27), none⟩,
      ⟨some 29, .mov (.t 3), some (28, false)⟩,
      ⟨some 30, .bin .gtr (.t 29) (.k (.val (.int .i64 0))), some (28, false)⟩,
      ⟨some 31, .mov (.t 30), some (28, false)⟩,
      ⟨some 32, .faddr 0 (.t 4), some (31, true)⟩,
      ⟨some 33, .load false 1 (.t 32), some (31, true)⟩,
      ⟨some 34, .faddr 0 (.t 1), some (31, true)⟩,
      ⟨some 35, .load false 1 (.t 34), some (31, true)⟩,
      ⟨some 36, .mov (.t 3), some (31, true)⟩,
      ⟨some 37, .bin .sub (.t 36) (.k (.val (.int .i64 1))), some (31, true)⟩,
      ⟨some 38, .iaddr 4 (.t 35) (.t 37), some (31, true)⟩,
      ⟨some 39, .faddr 0 (.t 38), some (31, true)⟩,
      ⟨some 40, .load false 1 (.t 39), some (31, true)⟩,
      ⟨some 41, .bin .leq (.t 33) (.t 40), some (31, true)⟩,
      ⟨some 42, .mov (.t 41), some (31, true)⟩,
      ⟨some 43, .faddr 1 (.t 4), some (42, false)⟩,
      ⟨some 44, .load false 1 (.t 43), some (42, false)⟩,
      ⟨some 45, .faddr 0 (.t 1), some (42, false)⟩,
      ⟨some 46, .load false 1 (.t 45), some (42, false)⟩,
      ⟨some 47, .mov (.t 3), some (42, false)⟩,
      ⟨some 48, .bin .sub (.t 47) (.k (.val (.int .i64 1))), some (42, false)⟩,
      ⟨some 49, .iaddr 4 (.t 46) (.t 48), some (42, false)⟩,
      ⟨some 50, .faddr 1 (.t 49), some (42, false)⟩,
      ⟨some 51, .load false 1 (.t 50), some (42, false)⟩,
      ⟨some 52, .bin .lss (.t 44) (.t 51), some (42, false)⟩,
      ⟨some 53, .pick (.t 42) (.k (.val (.bool true))) (.t 52), some (31, true)⟩,
      ⟨some 54, .pick (.t 31) (.t 53) (.k (.val (.bool false))), some (28, false)⟩,
      ⟨some 55, .pick (.t 28) (.k (.val (.bool true))) (.t 54), none⟩] []) (
    .cond (.t 55) (
     .seq (
     .reg [
       ⟨some 2, .mov (.k (.val (.bool false))), none⟩]) (
     .ret)) (
     .skip))))) (
   .reg [
     ⟨some 56, .bin .add (.t 20) (.k (.val (.int .i64 1))), none⟩,
     ⟨some 20, .mov (.t 56), none⟩])))))))) (
 .seq (
 .seq (
 .reg [
   ⟨some 57, .faddr 1 (.t 1), none⟩,
   ⟨some 58, .load false 1 (.t 57), none⟩,
   ⟨some 59, .len (.t 58), none⟩,
   ⟨some 60, .mov (.k (.val (.int .i64 0))), none⟩]) (
 .block 2 (
  .loop (.ghost (
   .seq (
   .reg [
     ⟨some 61, .bin .lss (.t 60) (.t 59), none⟩]) (
   .seq (
   .cond (.t 61) (
    .skip) (
    .exit 2)) (
   .seq (
   .block 3 (
    .seq (
    .reg [
      ⟨some 62, .mov (.t 60), none⟩,
      ⟨some 63, .iaddr 1 (.t 58) (.t 60), none⟩,
      ⟨some 64, .load false 1 (.t 63), none⟩,
      ⟨some 5, .mov (.t 62), none⟩,
      ⟨some 6, .mov (.t 64), none⟩]) (
    .seq (
    .reg [
      ⟨some 65, .mov (.t 6), none⟩,
      ⟨some 66, .call 125 [.t 65], none⟩,
      ⟨some 67, .un .not (.t 66), none⟩,
      ⟨some 68, .mov (.t 67), none⟩,
      ⟨some 69, .faddr 1 (.t 1), some (68, false)⟩,
      ⟨some 70, .load false 1 (.t 69), some (68, false)⟩,
      ⟨some 71, .mov (.t 5), some (68, false)⟩,
      ⟨some 72, .slc 1 (.t 70) none (some (.t 71)), some (68, false)⟩,
      ⟨some 73, .mov (.t 6), some (68, false)⟩,
      ⟨some 74, .call 118 [.t 72, .t 73], some (68, false)⟩,
      ⟨some 75, .pick (.t 68) (.k (.val (.bool true))) (.t 74), none⟩]) (
    .cond (.t 75) (
     .seq (
     .reg [
       ⟨some 2, .mov (.k (.val (.bool false))), none⟩]) (
     .ret)) (
     .skip))))) (
   .reg [
     ⟨some 76, .bin .add (.t 60) (.k (.val (.int .i64 1))), none⟩,
     ⟨some 60, .mov (.t 76), none⟩])))))))) (
 .seq (
 .reg [
   ⟨some 2, .mov (.k (.val (.bool true))), none⟩]) (
 .ret)))))
theorem ok73 : chkFn Tryz.prog 73 ir73 1 [.t 2] = true := by kernel_rfl

/-- (loop.example/g00779/impl.Pipe).channelOK$1 -/
def ir75 : PC :=
 .seq (
 .reg [
   ⟨some 2, .box (.t 0), none⟩,
   ⟨some 3, .mov (.k (.val (.bool false))), none⟩]) (
 .seq (
 .reg [
   ⟨some 4, .faddr 0 (.t 2), none⟩,
   ⟨some 5, .load false 1 (.t 4), none⟩,
   ⟨some 6, .faddr 5 (.t 1), none⟩,
   ⟨some 7, .load false 1 (.t 6), none⟩,
   ⟨some 8, .bin .geq (.t 5) (.t 7), none⟩,
   ⟨some 9, .mov (.t 8), none⟩,
   ⟨some 10, .faddr 1 (.t 2), some (9, false)⟩,
   ⟨some 11, .load false 1 (.t 10), some (9, false)⟩,
   ⟨some 12, .faddr 4 (.t 1), some (9, false)⟩,
   ⟨some 13, .load false 1 (.t 12), some (9, false)⟩,
   ⟨some 14, .bin .gtr (.t 11) (.t 13), some (9, false)⟩,
   ⟨some 15, .pick (.t 9) (.k (.val (.bool true))) (.t 14), none⟩,
   ⟨some 3, .mov (.t 15), none⟩]) (
 .ret))
theorem ok75 : chkFn Tryz.prog 75 ir75 2 [.t 3] = true := by kernel_rfl

/-- (loop.example/g00779/impl.Pipe).channelOK -/
def ir30 : PC :=
 .seq (
 .reg [
   ⟨some 2, .box (.t 0), none⟩,
   ⟨some 3, .box (.t 1), none⟩,
   ⟨some 4, .mov (.k (.val (.bool false))), none⟩]) (
 .seq (
 .seq (
 .draw [
   ⟨some 5, .faddr 0 (.t 3), none⟩,
   ⟨some 6, .load true 3 (.t 5), none⟩,
   ⟨some 7, .call 69 [.t 6], none⟩,
   ⟨some 8, .un .not (.t 7), none⟩,
   ⟨some 9, .mov (.t 8), none⟩,
   ⟨some 10, .faddr 3 (.t 3), some (9, false)⟩,
   ⟨some 11, .load false 1 (.t 10), some (9, false)⟩,
   ⟨some 12, .call 70 [.t 11], some (9, false)⟩,
   ⟨some 13, .un .not (.t 12), some (9, false)⟩,
   ⟨some 14, .pick (.t 9) (.k (.val (.bool true))) (.t 13), none⟩,
   ⟨some 15, .mov (.t 14), none⟩,
   ⟨some 16, .faddr 3 (.t 3), some (15, false)⟩,
   ⟨some 17, .load false 1 (.t 16), some (15, false)⟩,
   ⟨some 18, .call 72 [.t 17], some (15, false)⟩,
   ⟨some 19, .faddr 0 (.t 3), some (15, false)⟩,
   ⟨some 20, .faddr 2 (.t 19), some (15, false)⟩,
   ⟨some 21, .load false 1 (.t 20), some (15, false)⟩,
   ⟨some 22, .call 71 [.t 18, .t 21], some (15, false)⟩,
   ⟨some 23, .un .not (.t 22), some (15, false)⟩,
   ⟨some 24, .pick (.t 15) (.k (.val (.bool true))) (.t 23), none⟩,
   ⟨some 25, .mov (.t 24), none⟩,
   ⟨some 26, .faddr 4 (.t 3), some (25, false)⟩,
   ⟨some 27, .load true 2 (.t 26), some (25, false)⟩,
   ⟨some 28, .call 73 [.t 27], some (25, false)⟩,
   ⟨some 29, .un .not (.t 28), some (25, false)⟩,
   ⟨some 30, .pick (.t 25) (.k (.val (.bool true))) (.t 29), none⟩] []) (
 .cond (.t 30) (
  .seq (
  .reg [
    ⟨some 4, .mov (.k (.val (.bool false))), none⟩]) (
  .ret)) (
  .skip))) (
 .seq (
 .reg [
   ⟨some 31, .faddr 4 (.t 3), none⟩,
   ⟨some 32, .faddr 0 (.t 31), none⟩,
   ⟨some 33, .load false 1 (.t 32), none⟩,
   ⟨some 34, .mkfn 75 [.t 2], none⟩,
   ⟨some 35, .call 74 [.t 33, .t 34], none⟩,
   ⟨some 36, .un .not (.t 35), none⟩,
   ⟨some 4, .mov (.t 36), none⟩]) (
 .ret)))
theorem ok30 : chkFn Tryz.prog 30 ir30 2 [.t 4] = true := by kernel_rfl

/-- loop.example/g00779/impl.isStatus -/
def ir79 : PC :=
 .seq (
 .reg [
   ⟨some 2, .mov (.k (.val (.bool false))), none⟩]) (
 .seq (
 .reg [
   ⟨some 3, .mov (.t 0), none⟩,
   ⟨some 4, .call 29 [.t 3, .k (.val (.int .i64 100)), .k (.val (.int .i64 599))], none⟩,
   ⟨some 2, .mov (.t 4), none⟩]) (
 .ret))
theorem ok79 : chkFn Tryz.prog 79 ir79 1 [.t 2] = true := by kernel_rfl

/-- (loop.example/g00779/impl.Pipe).wireOK -/
def ir34 : PC :=
 .seq (
 .reg [
   ⟨some 2, .box (.t 0), none⟩,
   ⟨some 3, .box (.t 1), none⟩,
   ⟨some 4, .mov (.k (.val (.bool false))), none⟩]) (
 .seq (
 .seq (
 .reg [
   ⟨some 7, .faddr 0 (.t 3), none⟩,
   ⟨some 8, .load false 1 (.t 7), none⟩,
   ⟨some 9, .faddr 4 (.t 2), none⟩,
   ⟨some 10, .load false 1 (.t 9), none⟩,
   ⟨some 11, .call 29 [.t 8, .k (.val (.int .i64 0)), .t 10], none⟩,
   ⟨some 12, .un .not (.t 11), none⟩,
   ⟨some 13, .mov (.t 12), none⟩,
   ⟨some 14, .faddr 1 (.t 3), some (13, false)⟩,
   ⟨some 15, .load false 1 (.t 14), some (13, false)⟩,
   ⟨some 16, .call 79 [.t 15], some (13, false)⟩,
   ⟨some 17, .un .not (.t 16), some (13, false)⟩,
   ⟨some 18, .pick (.t 13) (.k (.val (.bool true))) (.t 17), none⟩,
   ⟨some 19, .mov (.t 18), none⟩,
   ⟨some 20, .faddr 2 (.t 3), some (19, false)⟩,
   ⟨some 21, .load false 1 (.t 20), some (19, false)⟩,
   ⟨some 22, .call 80 [.t 21], some (19, false)⟩,
   ⟨some 23, .un .not (.t 22), some (19, false)⟩,
   ⟨some 24, .pick (.t 19) (.k (.val (.bool true))) (.t 23), none⟩,
   ⟨some 25, .mov (.t 24), none⟩,
   ⟨some 26, .faddr 3 (.t 3), some (25, false)⟩,
   ⟨some 27, .load false 1 (.t 26), some (25, false)⟩,
   ⟨some 28, .lens (.t 27), some (25, false)⟩,
   ⟨some 29, .bin .gtr (.t 28) (.k (.val (.int .i64 100))), some (25, false)⟩,
   ⟨some 30, .pick (.t 25) (.k (.val (.bool true))) (.t 29), none⟩,
   ⟨some 31, .mov (.t 30), none⟩,
   ⟨some 32, .faddr 4 (.t 3), some (31, false)⟩,
   ⟨some 33, .load false 1 (.t 32), some (31, false)⟩,
   ⟨some 34, .len (.t 33), some (31, false)⟩,
   ⟨some 35, .call 29 [.t 34, .k (.val (.int .i64 1)), .k (.val (.int .i64 3))], some (31, false)⟩,
   ⟨some 36, .un .not (.t 35), some (31, false)⟩,
   ⟨some 37, .pick (.t 31) (.k (.val (.bool true))) (.t 36), none⟩,
   ⟨some 38, .mov (.t 37), none⟩,
   ⟨some 39, .faddr 5 (.t 3), some (38, false)⟩,
   ⟨some 40, .load false 1 (.t 39), some (38, false)⟩,
   ⟨some 41, .lens (.t 40), some (38, false)⟩,
   ⟨some 42, .bin .gtr (.t 41) (.k (.val (.int .i64 65536))), some (38, false)⟩,
   ⟨some 43, .pick (.t 38) (.k (.val (.bool true))) (.t 42), none⟩]) (
 .cond (.t 43) (
  .seq (
  .reg [
    ⟨some 4, .mov (.k (.val (.bool false))), none⟩]) (
  .ret)) (
  .skip))) (
 .seq (
 .seq (
 .reg [
   ⟨some 44, .faddr 4 (.t 3), none⟩,
   ⟨some 45, .load false 1 (.t 44), none⟩,
   ⟨some 46, .len (.t 45), none⟩,
   ⟨some 47, .mov (.k (.val (.int .i64 0))), none⟩]) (
 .block 0 (
  .loop (.ghost (
   .seq (
   .reg [
     ⟨some 48, .bin .lss (.t 47) (.t 46), none⟩]) (
   .seq (
   .cond (.t 48) (
    .skip) (
    .exit 0)) (
   .seq (
   .block 1 (
    .seq (
    .reg [
      ⟨some 49, .mov (.t 47), none⟩,
      ⟨some 50, .iaddr 1 (.t 45) (.t 47), none⟩,
      ⟨some 51, .load false 1 (.t 50), none⟩,
      ⟨some 5, .mov (.t 49), none⟩,
      ⟨some 6, .mov (.t 51), none⟩]) (
    .seq (
    .reg [
      ⟨some 52, .mov (.t 6), none⟩,
      ⟨some 53, .faddr 5 (.t 2), none⟩,
      ⟨some 54, .load false 1 (.t 53), none⟩,
      ⟨some 55, .bin .sub (.t 54) (.k (.val (.int .i64 1))), none⟩,
      ⟨some 56, .call 29 [.t 52, .k (.val (.int .i64 1)), .t 55], none⟩,
      ⟨some 57, .un .not (.t 56), none⟩,
      ⟨some 58, .mov (.t 57), none⟩,
      ⟨some 59, .mov (.t 5), some (58, false)⟩,
      ⟨some 60, .bin .gtr (.t 59) (.k (.val (.int .i64 0))), some (58, false)⟩,
      ⟨some 61, .mov (.t 60), some (58, false)⟩,
      ⟨some 62, .mov (.t 6), some (61, true)⟩,
      ⟨some 63, .faddr 4 (.t 3), some (61, true)⟩,
      ⟨some 64, .load false 1 (.t 63), some (61, true)⟩,
      ⟨some 65, .mov (.t 5), some (61, true)⟩,
      ⟨some 66, .bin .sub (.t 65) (.k (.val (.int .i64 1))), some (61, true)⟩,
      ⟨some 67, .iaddr 1 (.t 64) (.t 66), some (61, true)⟩,
      ⟨some 68, .load false 1 (.t 67), some (61, true)⟩,
      ⟨some 69, .bin .leq (.t 62) (.t 68), some (61, true)⟩,
      ⟨some 70, .pick (.t 61) (.t 69) (.k (.val (.bool false))), some (58, false)⟩,
      ⟨some 71, .pick (.t 58) (.k (.val (.bool true))) (.t 70), none⟩]) (
    .cond (.t 71) (
     .seq (
     .reg [
       ⟨some 4, .mov (.k (.val (.bool false))), none⟩]) (
     .ret)) (
     .skip))))) (
   .reg [
     ⟨some 72, .bin .add (.t 47) (.k (.val (.int .i64 1))), none⟩,
     ⟨some 47, .mov (.t 72), none⟩])))))))) (
 .seq (
 .reg [
   ⟨some 4, .mov (.k (.val (.bool true))), none⟩]) (
 .ret))))
theorem ok34 : chkFn Tryz.prog 34 ir34 2 [.t 4] = true := by kernel_rfl

/-- (loop.example/g00779/impl.Pipe).channel$1 -/
def ir77 : PC :=
 .seq (
 .reg [
   ⟨some 2, .box (.t 0), none⟩,
   ⟨some 3, .mov (.k (.val (.bool false))), none⟩]) (
 .seq (
 .reg [
   ⟨some 4, .faddr 0 (.t 2), none⟩,
   ⟨some 5, .faddr 0 (.t 4), none⟩,
   ⟨some 6, .load false 1 (.t 5), none⟩,
   ⟨some 7, .load false 1 (.t 1), none⟩,
   ⟨some 8, .bin .eql (.t 6) (.t 7), none⟩,
   ⟨some 3, .mov (.t 8), none⟩]) (
 .ret))
theorem ok77 : chkFn Tryz.prog 77 ir77 2 [.t 3] = true := by kernel_rfl

/-- (loop.example/g00779/impl.Pipe).channel -/
def ir31 : PC :=
 .seq (
 .reg [
   ⟨some 2, .box (.t 0), none⟩,
   ⟨some 3, .box (.t 1), none⟩,
   ⟨some 4, .mov (.k (.val (.int .i64 0))), none⟩]) (
 .seq (
 .reg [
   ⟨some 5, .faddr 0 (.t 2), none⟩,
   ⟨some 6, .load false 1 (.t 5), none⟩,
   ⟨some 7, .mkfn 77 [.t 3], none⟩,
   ⟨some 8, .call 76 [.t 6, .t 7], none⟩,
   ⟨some 4, .mov (.t 8), none⟩]) (
 .ret))
theorem ok31 : chkFn Tryz.prog 31 ir31 2 [.t 4] = true := by kernel_rfl

/-- loop.example/g00779/impl.PipeOK$1 -/
def ir33 : PC :=
 .seq (
 .reg [
   ⟨some 2, .box (.t 0), none⟩,
   ⟨some 3, .mov (.k (.val (.bool false))), none⟩]) (
 .seq (
 .reg [
   ⟨some 4, .load true 8 (.t 1), none⟩,
   ⟨some 5, .load true 7 (.t 2), none⟩,
   ⟨some 6, .call 34 [.t 4, .t 5], none⟩,
   ⟨some 7, .un .not (.t 6), none⟩,
   ⟨some 3, .mov (.t 7), none⟩]) (
 .ret))
theorem ok33 : chkFn Tryz.prog 33 ir33 2 [.t 3] = true := by kernel_rfl

/-- loop.example/g00779/impl.PipeOK -/
def ir10 : PC :=
 .seq (
 .reg [
   ⟨some 1, .box (.t 0), none⟩,
   ⟨some 2, .mov (.k (.val (.bool false))), none⟩]) (
 .seq (
 .seq (
 .reg [
   ⟨some 8, .faddr 0 (.t 1), none⟩,
   ⟨some 9, .load false 1 (.t 8), none⟩,
   ⟨some 10, .len (.t 9), none⟩,
   ⟨some 11, .bin .gtr (.t 10) (.k (.val (.int .i64 5))), none⟩,
   ⟨some 12, .mov (.t 11), none⟩,
   ⟨some 13, .faddr 1 (.t 1), some (12, false)⟩,
   ⟨some 14, .load true 3 (.t 13), some (12, false)⟩,
   ⟨some 15, .call 27 [.t 14], some (12, false)⟩,
   ⟨some 16, .un .not (.t 15), some (12, false)⟩,
   ⟨some 17, .pick (.t 12) (.k (.val (.bool true))) (.t 16), none⟩,
   ⟨some 18, .mov (.t 17), none⟩,
   ⟨some 19, .faddr 4 (.t 1), some (18, false)⟩,
   ⟨some 20, .load false 1 (.t 19), some (18, false)⟩,
   ⟨some 21, .call 28 [.t 20], some (18, false)⟩,
   ⟨some 22, .un .not (.t 21), some (18, false)⟩,
   ⟨some 23, .pick (.t 18) (.k (.val (.bool true))) (.t 22), none⟩,
   ⟨some 24, .mov (.t 23), none⟩,
   ⟨some 25, .faddr 5 (.t 1), some (24, false)⟩,
   ⟨some 26, .load false 1 (.t 25), some (24, false)⟩,
   ⟨some 27, .call 29 [.t 26, .k (.val (.int .i64 1)), .k (.val (.int .i64 1000000))], some (24, false)⟩,
   ⟨some 28, .un .not (.t 27), some (24, false)⟩,
   ⟨some 29, .pick (.t 24) (.k (.val (.bool true))) (.t 28), none⟩,
   ⟨some 30, .mov (.t 29), none⟩,
   ⟨some 31, .faddr 6 (.t 1), some (30, false)⟩,
   ⟨some 32, .load false 1 (.t 31), some (30, false)⟩,
   ⟨some 33, .len (.t 32), some (30, false)⟩,
   ⟨some 34, .bin .gtr (.t 33) (.k (.val (.int .i64 4096))), some (30, false)⟩,
   ⟨some 35, .pick (.t 30) (.k (.val (.bool true))) (.t 34), none⟩,
   ⟨some 36, .mov (.t 35), none⟩,
   ⟨some 37, .faddr 7 (.t 1), some (36, false)⟩,
   ⟨some 38, .load false 1 (.t 37), some (36, false)⟩,
   ⟨some 39, .len (.t 38), some (36, false)⟩,
   ⟨some 40, .bin .gtr (.t 39) (.k (.val (.int .i64 4096))), some (36, false)⟩,
   ⟨some 41, .pick (.t 36) (.k (.val (.bool true))) (.t 40), none⟩]) (
 .cond (.t 41) (
  .seq (
  .reg [
    ⟨some 2, .mov (.k (.val (.bool false))), none⟩]) (
  .ret)) (
  .skip))) (
 .seq (
 .seq (
 .reg [
   ⟨some 42, .faddr 0 (.t 1), none⟩,
   ⟨some 43, .load false 1 (.t 42), none⟩,
   ⟨some 44, .len (.t 43), none⟩,
   ⟨some 45, .mov (.k (.val (.int .i64 0))), none⟩]) (
 .block 0 (
  .loop (.ghost (
   .seq (
   .reg [
     ⟨some 46, .bin .lss (.t 45) (.t 44), none⟩]) (
   .seq (
   .cond (.t 46) (
    .skip) (
    .exit 0)) (
   .seq (
   .block 1 (
    .seq (
    .reg [
      ⟨some 47, .mov (.t 45), none⟩,
      ⟨some 48, .iaddr 6 (.t 43) (.t 45), none⟩,
      ⟨some 49, .load true 6 (.t 48), none⟩,
      ⟨some 4, .alloc [.val (.str ⟨#[]⟩), .val (.int .i64 0), .emp 3, .emp 6, .emp 4, .emp 1], none⟩,
      ⟨some 3, .mov (.t 47), none⟩,
      ⟨none, .store 6 (.t 4) (.t 49), none⟩]) (
    .seq (
    .reg [
      ⟨some 50, .load true 8 (.t 1), none⟩,
      ⟨some 51, .load true 6 (.t 4), none⟩,
      ⟨some 52, .call 30 [.t 50, .t 51], none⟩,
      ⟨some 53, .un .not (.t 52), none⟩,
      ⟨some 54, .mov (.t 53), none⟩,
      ⟨some 55, .load true 8 (.t 1), some (54, false)⟩,
      ⟨some 56, .faddr 0 (.t 4), some (54, false)⟩,
      ⟨some 57, .faddr 0 (.t 56), some (54, false)⟩,
      ⟨some 58, .load false 1 (.t 57), some (54, false)⟩,
      ⟨some 59, .call 31 [.t 55, .t 58], some (54, false)⟩,
      ⟨some 60, .mov (.t 3), some (54, false)⟩,
      ⟨some 61, .bin .neq (.t 59) (.t 60), some (54, false)⟩,
      ⟨some 62, .pick (.t 54) (.k (.val (.bool true))) (.t 61), none⟩]) (
    .cond (.t 62) (
     .seq (
     .reg [
       ⟨some 2, .mov (.k (.val (.bool false))), none⟩]) (
     .ret)) (
     .skip))))) (
   .reg [
     ⟨some 63, .bin .add (.t 45) (.k (.val (.int .i64 1))), none⟩,
     ⟨some 45, .mov (.t 63), none⟩])))))))) (
 .seq (
 .reg [
   ⟨some 5, .mov (.k (.val (.int .i64 0))), none⟩]) (
 .seq (
 .seq (
 .reg [
   ⟨some 64, .faddr 6 (.t 1), none⟩,
   ⟨some 65, .load false 1 (.t 64), none⟩,
   ⟨some 66, .len (.t 65), none⟩,
   ⟨some 67, .mov (.k (.val (.int .i64 0))), none⟩]) (
 .block 2 (
  .loop (.ghost (
   .seq (
   .reg [
     ⟨some 68, .bin .lss (.t 67) (.t 66), none⟩]) (
   .seq (
   .cond (.t 68) (
    .skip) (
    .exit 2)) (
   .seq (
   .block 3 (
    .seq (
    .reg [
      ⟨some 69, .iaddr 3 (.t 65) (.t 67), none⟩,
      ⟨some 70, .load true 3 (.t 69), none⟩,
      ⟨some 7, .alloc [.val (.int .i64 0), .val (.int .i64 0), .val (.int .i64 0)], none⟩,
      ⟨none, .store 3 (.t 7) (.t 70), none⟩]) (
    .seq (
    .seq (
    .reg [
      ⟨some 71, .faddr 0 (.t 7), none⟩,
      ⟨some 72, .load false 1 (.t 71), none⟩,
      ⟨some 73, .call 29 [.t 72, .k (.val (.int .i64 1)), .k (.val (.int .i64 7))], none⟩,
      ⟨some 74, .un .not (.t 73), none⟩,
      ⟨some 75, .mov (.t 74), none⟩,
      ⟨some 76, .faddr 1 (.t 7), some (75, false)⟩,
      ⟨some 77, .load false 1 (.t 76), some (75, false)⟩,
      ⟨some 78, .faddr 5 (.t 1), some (75, false)⟩,
      ⟨some 79, .load false 1 (.t 78), some (75, false)⟩,
      ⟨some 80, .bin .sub (.t 79) (.k (.val (.int .i64 1))), some (75, false)⟩,
      ⟨some 81, .call 29 [.t 77, .k (.val (.int .i64 1)), .t 80], some (75, false)⟩,
      ⟨some 82, .un .not (.t 81), some (75, false)⟩,
      ⟨some 83, .pick (.t 75) (.k (.val (.bool true))) (.t 82), none⟩,
      ⟨some 84, .mov (.t 83), none⟩,
      ⟨some 85, .faddr 2 (.t 7), some (84, false)⟩,
      ⟨some 86, .load false 1 (.t 85), some (84, false)⟩,
      ⟨some 87, .mov (.t 5), some (84, false)⟩,
      ⟨some 88, .faddr 4 (.t 1), some (84, false)⟩,
      ⟨some 89, .load false 1 (.t 88), some (84, false)⟩,
      ⟨some 90, .call 29 [.t 86, .t 87, .t 89], some (84, false)⟩,
      ⟨some 91, .un .not (.t 90), some (84, false)⟩,
      ⟨some 92, .pick (.t 84) (.k (.val (.bool true))) (.t 91), none⟩]) (
    .cond (.t 92) (
     .seq (
     .reg [
       ⟨some 2, .mov (.k (.val (.bool false))), none⟩]) (
     .ret)) (
     .skip))) (
    .reg [
      ⟨some 93, .faddr 2 (.t 7), none⟩,
      ⟨some 94, .load false 1 (.t 93), none⟩,
      ⟨some 5, .mov (.t 94), none⟩])))) (
   .reg [
     ⟨some 95, .bin .add (.t 67) (.k (.val (.int .i64 1))), none⟩,
     ⟨some 67, .mov (.t 95), none⟩])))))))) (
 .seq (
 .reg [
   ⟨some 96, .faddr 7 (.t 1), none⟩,
   ⟨some 97, .load false 1 (.t 96), none⟩,
   ⟨some 98, .mkfn 33 [.t 1], none⟩,
   ⟨some 99, .call 32 [.t 97, .t 98], none⟩,
   ⟨some 100, .un .not (.t 99), none⟩,
   ⟨some 2, .mov (.t 100), none⟩]) (
 .ret))))))
theorem ok10 : chkFn Tryz.prog 10 ir10 1 [.t 2] = true := by kernel_rfl

/-- slices.IndexFunc[[]loop.example/g00779/impl.Report,loop.example/g00779/impl.Report] -/
def ir126 : PC :=
 .seq (
 .reg [
   ⟨some 4, .mov (.k (.val (.int .i64 0))), none⟩]) (
 .seq (
 .seq (
 .reg [
   ⟨some 6, .mov (.t 0), none⟩,
   ⟨some 7, .len (.t 6), none⟩,
   ⟨some 8, .mov (.k (.val (.int .i64 0))), none⟩]) (
 .block 0 (
  .loop (.ghost (
   .seq (
   .reg [
     ⟨some 9, .bin .lss (.t 8) (.t 7), none⟩]) (
   .seq (
   .cond (.t 9) (
    .skip) (
    .exit 0)) (
   .seq (
   .block 1 (
    .seq (
    .reg [
      ⟨some 10, .mov (.t 8), none⟩,
      ⟨some 5, .mov (.t 10), none⟩]) (
    .seq (
    .reg [
      ⟨some 11, .mov (.t 1), none⟩,
      ⟨some 12, .mov (.t 0), none⟩,
      ⟨some 13, .mov (.t 5), none⟩,
      ⟨some 14, .iaddr 4 (.t 12) (.t 13), none⟩,
      ⟨some 15, .load true 4 (.t 14), none⟩,
      ⟨some 16, .callv (.t 11) [.t 15], none⟩]) (
    .cond (.t 16) (
     .seq (
     .reg [
       ⟨some 17, .mov (.t 5), none⟩,
       ⟨some 4, .mov (.t 17), none⟩]) (
     .ret)) (
     .skip))))) (
   .reg [
     ⟨some 18, .bin .add (.t 8) (.k (.val (.int .i64 1))), none⟩,
     ⟨some 8, .mov (.t 18), none⟩])))))))) (
 .seq (
 .reg [
   ⟨some 4, .mov (.k (.val (.int .i64 (-1)))), none⟩]) (
 .ret)))
theorem ok126 : chkFn Tryz.prog 126 ir126 2 [.t 4] = true := by kernel_rfl

/-- slices.ContainsFunc[[]loop.example/g00779/impl.Report,loop.example/g00779/impl.Report] -/
def ir74 : PC :=
 .seq (
 .reg [
   ⟨some 4, .mov (.k (.val (.bool false))), none⟩]) (
 .seq (
 .reg [
   ⟨some 5, .mov (.t 0), none⟩,
   ⟨some 6, .mov (.t 1), none⟩,
   ⟨some 7, .call 126 [.t 5, .t 6], none⟩,
   ⟨some 8, .bin .geq (.t 7) (.k (.val (.int .i64 0))), none⟩,
   ⟨some 4, .mov (.t 8), none⟩]) (
 .ret))
theorem ok74 : chkFn Tryz.prog 74 ir74 2 [.t 4] = true := by kernel_rfl

/-- slices.IndexFunc[[]loop.example/g00779/impl.Channel,loop.example/g00779/impl.Channel] -/
def ir76 : PC :=
 .seq (
 .reg [
   ⟨some 4, .mov (.k (.val (.int .i64 0))), none⟩]) (
 .seq (
 .seq (
 .reg [
   ⟨some 6, .mov (.t 0), none⟩,
   ⟨some 7, .len (.t 6), none⟩,
   ⟨some 8, .mov (.k (.val (.int .i64 0))), none⟩]) (
 .block 0 (
  .loop (.ghost (
   .seq (
   .reg [
     ⟨some 9, .bin .lss (.t 8) (.t 7), none⟩]) (
   .seq (
   .cond (.t 9) (
    .skip) (
    .exit 0)) (
   .seq (
   .block 1 (
    .seq (
    .reg [
      ⟨some 10, .mov (.t 8), none⟩,
      ⟨some 5, .mov (.t 10), none⟩]) (
    .seq (
    .reg [
      ⟨some 11, .mov (.t 1), none⟩,
      ⟨some 12, .mov (.t 0), none⟩,
      ⟨some 13, .mov (.t 5), none⟩,
      ⟨some 14, .iaddr 6 (.t 12) (.t 13), none⟩,
      ⟨some 15, .load true 6 (.t 14), none⟩,
      ⟨some 16, .callv (.t 11) [.t 15], none⟩]) (
    .cond (.t 16) (
     .seq (
     .reg [
       ⟨some 17, .mov (.t 5), none⟩,
       ⟨some 4, .mov (.t 17), none⟩]) (
     .ret)) (
     .skip))))) (
   .reg [
     ⟨some 18, .bin .add (.t 8) (.k (.val (.int .i64 1))), none⟩,
     ⟨some 8, .mov (.t 18), none⟩])))))))) (
 .seq (
 .reg [
   ⟨some 4, .mov (.k (.val (.int .i64 (-1)))), none⟩]) (
 .ret)))
theorem ok76 : chkFn Tryz.prog 76 ir76 2 [.t 4] = true := by kernel_rfl

/-- slices.IndexFunc[[]loop.example/g00779/impl.Wire,loop.example/g00779/impl.Wire] -/
def ir78 : PC :=
 .seq (
 .reg [
   ⟨some 4, .mov (.k (.val (.int .i64 0))), none⟩]) (
 .seq (
 .seq (
 .reg [
   ⟨some 6, .mov (.t 0), none⟩,
   ⟨some 7, .len (.t 6), none⟩,
   ⟨some 8, .mov (.k (.val (.int .i64 0))), none⟩]) (
 .block 0 (
  .loop (.ghost (
   .seq (
   .reg [
     ⟨some 9, .bin .lss (.t 8) (.t 7), none⟩]) (
   .seq (
   .cond (.t 9) (
    .skip) (
    .exit 0)) (
   .seq (
   .block 1 (
    .seq (
    .reg [
      ⟨some 10, .mov (.t 8), none⟩,
      ⟨some 5, .mov (.t 10), none⟩]) (
    .seq (
    .reg [
      ⟨some 11, .mov (.t 1), none⟩,
      ⟨some 12, .mov (.t 0), none⟩,
      ⟨some 13, .mov (.t 5), none⟩,
      ⟨some 14, .iaddr 7 (.t 12) (.t 13), none⟩,
      ⟨some 15, .load true 7 (.t 14), none⟩,
      ⟨some 16, .callv (.t 11) [.t 15], none⟩]) (
    .cond (.t 16) (
     .seq (
     .reg [
       ⟨some 17, .mov (.t 5), none⟩,
       ⟨some 4, .mov (.t 17), none⟩]) (
     .ret)) (
     .skip))))) (
   .reg [
     ⟨some 18, .bin .add (.t 8) (.k (.val (.int .i64 1))), none⟩,
     ⟨some 8, .mov (.t 18), none⟩])))))))) (
 .seq (
 .reg [
   ⟨some 4, .mov (.k (.val (.int .i64 (-1)))), none⟩]) (
 .ret)))
theorem ok78 : chkFn Tryz.prog 78 ir78 2 [.t 4] = true := by kernel_rfl

/-- slices.ContainsFunc[[]loop.example/g00779/impl.Wire,loop.example/g00779/impl.Wire] -/
def ir32 : PC :=
 .seq (
 .reg [
   ⟨some 4, .mov (.k (.val (.bool false))), none⟩]) (
 .seq (
 .reg [
   ⟨some 5, .mov (.t 0), none⟩,
   ⟨some 6, .mov (.t 1), none⟩,
   ⟨some 7, .call 78 [.t 5, .t 6], none⟩,
   ⟨some 8, .bin .geq (.t 7) (.k (.val (.int .i64 0))), none⟩,
   ⟨some 4, .mov (.t 8), none⟩]) (
 .ret))
theorem ok32 : chkFn Tryz.prog 32 ir32 2 [.t 4] = true := by kernel_rfl

/-- slices.Equal[[]loop.example/g00779/impl.Target,loop.example/g00779/impl.Target] -/
def ir71 : PC :=
 .seq (
 .reg [
   ⟨some 4, .mov (.k (.val (.bool false))), none⟩]) (
 .seq (
 .seq (
 .reg [
   ⟨some 6, .mov (.t 0), none⟩,
   ⟨some 7, .len (.t 6), none⟩,
   ⟨some 8, .mov (.t 1), none⟩,
   ⟨some 9, .len (.t 8), none⟩,
   ⟨some 10, .bin .neq (.t 7) (.t 9), none⟩]) (
 .cond (.t 10) (
  .seq (
  .reg [
    ⟨some 4, .mov (.k (.val (.bool false))), none⟩]) (
  .ret)) (
  .skip))) (
 .seq (
 .seq (
 .reg [
   ⟨some 11, .mov (.t 0), none⟩,
   ⟨some 12, .len (.t 11), none⟩,
   ⟨some 13, .mov (.k (.val (.int .i64 0))), none⟩]) (
 .block 0 (
  .loop (.ghost (
   .seq (
   .reg [
     ⟨some 14, .bin .lss (.t 13) (.t 12), none⟩]) (
   .seq (
   .cond (.t 14) (
    .skip) (
    .exit 0)) (
   .seq (
   .block 1 (
    .seq (
    .reg [
      ⟨some 15, .mov (.t 13), none⟩,
      ⟨some 5, .mov (.t 15), none⟩]) (
    .seq (
    .draw [
      ⟨some 16, .mov (.t 0), none⟩,
      ⟨some 17, .mov (.t 5), none⟩,
      ⟨some 18, .iaddr 3 (.t 16) (.t 17), none⟩,
      ⟨some 19, .load true 3 (.t 18), none⟩,
      ⟨some 20, .mov (.t 1), none⟩,
      ⟨some 21, .mov (.t 5), none⟩,
      ⟨some 22, .iaddr 3 (.t 20) (.t 21), none⟩,
      ⟨some 23, .load true 3 (.t 22), none⟩] [
      ⟨some 24, .eqs true [0, 2, 2] (.t 19) (.t 23), none⟩]) (
    .cond (.t 24) (
     .seq (
     .reg [
       ⟨some 4, .mov (.k (.val (.bool false))), none⟩]) (
     .ret)) (
     .skip))))) (
   .reg [
     ⟨some 25, .bin .add (.t 13) (.k (.val (.int .i64 1))), none⟩,
     ⟨some 13, .mov (.t 25), none⟩])))))))) (
 .seq (
 .reg [
   ⟨some 4, .mov (.k (.val (.bool true))), none⟩]) (
 .ret))))
theorem ok71 : chkFn Tryz.prog 71 ir71 2 [.t 4] = true := by kernel_rfl

end Go.Proofs
end

/- Functions of the seat as data. MADE BY PROGRAM (print_ir.py). -/
section
set_option maxRecDepth 100000
namespace Go.Proofs
open Go.PW

/-- loop.example/g00779/laws.FnExactPipeOK -/
def ir3 : PC :=
 .seq (
 .reg [
   ⟨some 1, .box (.t 0), none⟩,
   ⟨some 2, .mov (.k (.val (.bool false))), none⟩]) (
 .seq (
 .reg [
   ⟨some 3, .mov (.k (.val (.int .i64 1048576))), none⟩]) (
 .seq (
 .reg [
   ⟨some 7, .load true 8 (.t 1), none⟩,
   ⟨some 8, .mov (.t 3), none⟩,
   ⟨some 9, .call 7 [.t 7, .t 8], none⟩,
   ⟨some 3, .mov (.t 9), none⟩]) (
 .seq (
 .seq (
 .reg [
   ⟨some 10, .mov (.t 3), none⟩,
   ⟨some 11, .bin .lss (.t 10) (.k (.val (.int .i64 0))), none⟩]) (
 .cond (.t 11) (
  .seq (
  .reg [
    ⟨some 2, .mov (.k (.val (.bool true))), none⟩]) (
  .ret)) (
  .skip))) (
 .seq (
 .reg [
   ⟨some 12, .load true 8 (.t 1), none⟩,
   ⟨some 13, .call 9 [.t 12], none⟩,
   ⟨some 14, .call 8 [.t 13], none⟩,
   ⟨some 4, .mov (.t 14), none⟩]) (
 .seq (
 .reg [
   ⟨some 15, .load true 8 (.t 1), none⟩,
   ⟨some 16, .call 9 [.t 15], none⟩,
   ⟨some 5, .alloc [.emp 6, .val (.str ⟨#[]⟩), .emp 1, .emp 2, .val (.int .i64 0), .val (.int .i64 0), .emp 3, .emp 7], none⟩,
   ⟨none, .store 8 (.t 5) (.t 16), none⟩]) (
 .seq (
 .reg [
   ⟨some 17, .load true 8 (.t 5), none⟩,
   ⟨some 18, .call 10 [.t 17], none⟩,
   ⟨some 6, .mov (.t 18), none⟩]) (
 .seq (
 .seq (
 .reg [
   ⟨some 19, .mov (.t 6), none⟩,
   ⟨some 20, .mov (.t 4), none⟩,
   ⟨some 21, .eqb true (.t 19) (.t 20), none⟩]) (
 .cond (.t 21) (
  .seq (
  .reg [
    ⟨some 2, .mov (.k (.val (.bool false))), none⟩]) (
  .ret)) (
  .skip))) (
 .seq (
 .seq (
 .draw [
   ⟨some 22, .load true 8 (.t 5), none⟩,
   ⟨some 23, .load true 8 (.t 1), none⟩,
   ⟨some 24, .call 9 [.t 23], none⟩] [
   ⟨some 25, .call 11 [.t 22, .t 24], none⟩,
   ⟨some 26, .un .not (.t 25), none⟩]) (
 .cond (.t 26) (
  .seq (
  .reg [
    ⟨some 2, .mov (.k (.val (.bool false))), none⟩]) (
  .ret)) (
  .skip))) (
 .seq (
 .reg [
   ⟨some 2, .mov (.k (.val (.bool true))), none⟩]) (
 .ret))))))))))
theorem ok3 : chkFn Tryz.prog 3 ir3 1 [.t 2] = true := by kernel_rfl

end Go.Proofs
end
