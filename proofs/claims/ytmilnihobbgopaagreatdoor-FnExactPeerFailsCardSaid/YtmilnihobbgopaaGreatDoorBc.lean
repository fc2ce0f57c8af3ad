/- Bc: merged out of IRh. -/
import Derived.Test.YtmilnihobbgopaaGreatDoorPWv
import Derived.Test.YtmilnihobbgopaaGreatDoorChecked
import Derived.KernelRfl

/- Functions of the seat as data. MADE BY PROGRAM (print_ir.py). -/
section
set_option maxRecDepth 100000
namespace Go.Proofs
open Go.PW

/-- loop.example/g00779/laws.FnExactPolicyOK -/
def ir8 : PC :=
 .seq (
 .reg [
   ⟨some 1, .box (.t 0), none⟩,
   ⟨some 2, .mov (.k (.val (.bool false))), none⟩]) (
 .seq (
 .reg [
   ⟨some 3, .mov (.k (.val (.int .i64 1048576))), none⟩]) (
 .seq (
 .reg [
   ⟨some 7, .load true 3 (.t 1), none⟩,
   ⟨some 8, .mov (.t 3), none⟩,
   ⟨some 9, .call 35 [.t 7, .t 8], none⟩,
   ⟨some 3, .mov (.t 9), none⟩]) (
 .seq (
 .seq (
 .reg [
   ⟨some 10, .mov (.t 3), none⟩,
   ⟨some 11, .bin .lss (.t 10) (.k (.val (.int .i64 0))), none⟩]) (
 .cond (.t 11) (
  .seq (
  .reg [
    ⟨some 2, .mov (.k (.val (.bool true))), none⟩]) (
  .ret)) (
  .skip))) (
 .seq (
 .reg [
   ⟨some 12, .load true 3 (.t 1), none⟩,
   ⟨some 13, .call 37 [.t 12], none⟩,
   ⟨some 14, .call 36 [.t 13], none⟩,
   ⟨some 4, .mov (.t 14), none⟩]) (
 .seq (
 .reg [
   ⟨some 15, .load true 3 (.t 1), none⟩,
   ⟨some 16, .call 37 [.t 15], none⟩,
   ⟨some 5, .alloc [.val (.str ⟨#[]⟩), .emp 1, .emp 2], none⟩,
   ⟨none, .store 3 (.t 5) (.t 16), none⟩]) (
 .seq (
 .reg [
   ⟨some 17, .load true 3 (.t 5), none⟩,
   ⟨some 18, .call 38 [.t 17], none⟩,
   ⟨some 6, .mov (.t 18), none⟩]) (
 .seq (
 .seq (
 .reg [
   ⟨some 19, .mov (.t 6), none⟩,
   ⟨some 20, .mov (.t 4), none⟩,
   ⟨some 21, .eqb true (.t 19) (.t 20), none⟩]) (
 .cond (.t 21) (
  .seq (
  .reg [
    ⟨some 2, .mov (.k (.val (.bool false))), none⟩]) (
  .ret)) (
  .skip))) (
 .seq (
 .seq (
 .draw [
   ⟨some 22, .load true 3 (.t 5), none⟩,
   ⟨some 23, .load true 3 (.t 1), none⟩,
   ⟨some 24, .call 37 [.t 23], none⟩] [
   ⟨some 25, .call 39 [.t 22, .t 24], none⟩,
   ⟨some 26, .un .not (.t 25), none⟩]) (
 .cond (.t 26) (
  .seq (
  .reg [
    ⟨some 2, .mov (.k (.val (.bool false))), none⟩]) (
  .ret)) (
  .skip))) (
 .seq (
 .reg [
   ⟨some 2, .mov (.k (.val (.bool true))), none⟩]) (
 .ret))))))))))
theorem ok8 : chkFn Tryz.prog 8 ir8 1 [.t 2] = true := by kernel_rfl

/-- loop.example/g00779/laws.FnExactGroupFor -/
def ir11 : PC :=
 .seq (
 .reg [
   ⟨some 1, .box (.t 0), none⟩,
   ⟨some 2, .mov (.k (.val (.bool false))), none⟩]) (
 .seq (
 .reg [
   ⟨some 3, .mov (.k (.val (.int .i64 1048576))), none⟩]) (
 .seq (
 .reg [
   ⟨some 9, .load true 3 (.t 1), none⟩,
   ⟨some 10, .mov (.t 3), none⟩,
   ⟨some 11, .call 35 [.t 9, .t 10], none⟩,
   ⟨some 3, .mov (.t 11), none⟩]) (
 .seq (
 .seq (
 .reg [
   ⟨some 12, .mov (.t 3), none⟩,
   ⟨some 13, .bin .lss (.t 12) (.k (.val (.int .i64 0))), none⟩]) (
 .cond (.t 13) (
  .seq (
  .reg [
    ⟨some 2, .mov (.k (.val (.bool true))), none⟩]) (
  .ret)) (
  .skip))) (
 .seq (
 .reg [
   ⟨some 15, .load true 3 (.t 1), none⟩,
   ⟨some 16, .call 37 [.t 15], none⟩,
   ⟨some 17, .call 52 [.t 16], none⟩,
   ⟨some 14, .mov (.t 17), none⟩,
   ⟨some 18, .ext 0 (.t 14), none⟩,
   ⟨some 19, .ext 1 (.t 14), none⟩,
   ⟨some 4, .mov (.t 18), none⟩,
   ⟨some 5, .mov (.t 19), none⟩]) (
 .seq (
 .reg [
   ⟨some 20, .load true 3 (.t 1), none⟩,
   ⟨some 21, .call 37 [.t 20], none⟩,
   ⟨some 6, .alloc [.val (.str ⟨#[]⟩), .emp 1, .emp 2], none⟩,
   ⟨none, .store 3 (.t 6) (.t 21), none⟩]) (
 .seq (
 .reg [
   ⟨some 23, .load true 3 (.t 6), none⟩,
   ⟨some 24, .call 53 [.t 23], none⟩,
   ⟨some 22, .mov (.t 24), none⟩,
   ⟨some 25, .ext 0 (.t 22), none⟩,
   ⟨some 26, .ext 1 (.t 22), none⟩,
   ⟨some 7, .mov (.t 25), none⟩,
   ⟨some 8, .mov (.t 26), none⟩]) (
 .seq (
 .seq (
 .reg [
   ⟨some 27, .mov (.t 7), none⟩,
   ⟨some 28, .mov (.t 4), none⟩,
   ⟨some 29, .bin .neq (.t 27) (.t 28), none⟩,
   ⟨some 30, .mov (.t 29), none⟩,
   ⟨some 31, .mov (.t 8), some (30, false)⟩,
   ⟨some 32, .mov (.t 5), some (30, false)⟩,
   ⟨some 33, .bin .neq (.t 31) (.t 32), some (30, false)⟩,
   ⟨some 34, .pick (.t 30) (.k (.val (.bool true))) (.t 33), none⟩]) (
 .cond (.t 34) (
  .seq (
  .reg [
    ⟨some 2, .mov (.k (.val (.bool false))), none⟩]) (
  .ret)) (
  .skip))) (
 .seq (
 .seq (
 .draw [
   ⟨some 35, .load true 3 (.t 6), none⟩,
   ⟨some 36, .load true 3 (.t 1), none⟩,
   ⟨some 37, .call 37 [.t 36], none⟩] [
   ⟨some 38, .call 39 [.t 35, .t 37], none⟩,
   ⟨some 39, .un .not (.t 38), none⟩]) (
 .cond (.t 39) (
  .seq (
  .reg [
    ⟨some 2, .mov (.k (.val (.bool false))), none⟩]) (
  .ret)) (
  .skip))) (
 .seq (
 .reg [
   ⟨some 2, .mov (.k (.val (.bool true))), none⟩]) (
 .ret))))))))))
theorem ok11 : chkFn Tryz.prog 11 ir11 1 [.t 2] = true := by kernel_rfl

/-- loop.example/g00779/laws.FnExactPeerGone -/
def ir6 : PC :=
 .seq (
 .reg [
   ⟨some 4, .mov (.k (.val (.bool false))), none⟩]) (
 .seq (
 .reg [
   ⟨some 5, .mov (.k (.val (.int .i64 1048576))), none⟩]) (
 .seq (
 .reg [
   ⟨some 16, .mov (.t 0), none⟩,
   ⟨some 17, .mov (.t 5), none⟩,
   ⟨some 18, .call 24 [.t 16, .t 17], none⟩,
   ⟨some 5, .mov (.t 18), none⟩]) (
 .seq (
 .seq (
 .reg [
   ⟨some 19, .mov (.t 5), none⟩,
   ⟨some 20, .bin .lss (.t 19) (.k (.val (.int .i64 0))), none⟩]) (
 .cond (.t 20) (
  .seq (
  .reg [
    ⟨some 4, .mov (.k (.val (.bool true))), none⟩]) (
  .ret)) (
  .skip))) (
 .seq (
 .reg [
   ⟨some 22, .mov (.t 0), none⟩,
   ⟨some 23, .call 26 [.t 22], none⟩,
   ⟨some 24, .mov (.t 1), none⟩,
   ⟨some 25, .call 31 [.t 23, .t 24], none⟩,
   ⟨some 21, .mov (.t 25), none⟩,
   ⟨some 26, .ext 0 (.t 21), none⟩,
   ⟨some 27, .ext 1 (.t 21), none⟩,
   ⟨some 6, .mov (.t 26), none⟩,
   ⟨some 7, .mov (.t 27), none⟩]) (
 .seq (
 .reg [
   ⟨some 28, .mov (.t 0), none⟩,
   ⟨some 29, .call 26 [.t 28], none⟩,
   ⟨some 8, .mov (.t 29), none⟩]) (
 .seq (
 .reg [
   ⟨some 31, .mov (.t 8), none⟩,
   ⟨some 32, .mov (.t 1), none⟩,
   ⟨some 33, .call 32 [.t 31, .t 32], none⟩,
   ⟨some 30, .mov (.t 33), none⟩,
   ⟨some 34, .ext 0 (.t 30), none⟩,
   ⟨some 35, .ext 1 (.t 30), none⟩,
   ⟨some 9, .mov (.t 34), none⟩,
   ⟨some 10, .mov (.t 35), none⟩]) (
 .seq (
 .seq (
 .reg [
   ⟨some 36, .mov (.t 9), none⟩,
   ⟨some 37, .mov (.t 6), none⟩,
   ⟨some 38, .call 28 [.t 36, .t 37], none⟩,
   ⟨some 39, .un .not (.t 38), none⟩,
   ⟨some 40, .mov (.t 39), none⟩,
   ⟨some 41, .mov (.t 10), some (40, false)⟩,
   ⟨some 42, .mov (.t 7), some (40, false)⟩,
   ⟨some 43, .bin .neq (.t 41) (.t 42), some (40, false)⟩,
   ⟨some 44, .pick (.t 40) (.k (.val (.bool true))) (.t 43), none⟩]) (
 .cond (.t 44) (
  .seq (
  .reg [
    ⟨some 4, .mov (.k (.val (.bool false))), none⟩]) (
  .ret)) (
  .skip))) (
 .seq (
 .seq (
 .reg [
   ⟨some 45, .mov (.t 8), none⟩,
   ⟨some 46, .mov (.t 0), none⟩,
   ⟨some 47, .call 26 [.t 46], none⟩,
   ⟨some 48, .call 28 [.t 45, .t 47], none⟩,
   ⟨some 49, .un .not (.t 48), none⟩]) (
 .cond (.t 49) (
  .seq (
  .reg [
    ⟨some 4, .mov (.k (.val (.bool false))), none⟩]) (
  .ret)) (
  .skip))) (
 .seq (
 .reg [
   ⟨some 11, .mov (.k (.val (.int .i64 1))), none⟩]) (
 .seq (
 .reg [
   ⟨some 50, .mov (.t 8), none⟩,
   ⟨some 51, .mov (.t 11), none⟩,
   ⟨some 52, .callr 29 (.t 50) [.t 51], none⟩,
   ⟨some 11, .mov (.t 52), none⟩]) (
 .seq (
 .seq (
 .reg [
   ⟨some 53, .mov (.t 11), none⟩,
   ⟨some 54, .bin .lss (.t 53) (.k (.val (.int .i64 0))), none⟩,
   ⟨some 55, .mov (.t 54), none⟩,
   ⟨some 56, .mov (.t 9), some (55, false)⟩,
   ⟨some 57, .mov (.t 6), some (55, false)⟩,
   ⟨some 58, .call 28 [.t 56, .t 57], some (55, false)⟩,
   ⟨some 59, .un .not (.t 58), some (55, false)⟩,
   ⟨some 60, .pick (.t 55) (.k (.val (.bool true))) (.t 59), none⟩,
   ⟨some 61, .mov (.t 60), none⟩,
   ⟨some 62, .mov (.t 10), some (61, false)⟩,
   ⟨some 63, .mov (.t 7), some (61, false)⟩,
   ⟨some 64, .bin .neq (.t 62) (.t 63), some (61, false)⟩,
   ⟨some 65, .pick (.t 61) (.k (.val (.bool true))) (.t 64), none⟩]) (
 .cond (.t 65) (
  .seq (
  .reg [
    ⟨some 4, .mov (.k (.val (.bool false))), none⟩]) (
  .ret)) (
  .skip))) (
 .seq (
 .reg [
   ⟨some 12, .mov (.k (.val (.int .i64 1))), none⟩]) (
 .seq (
 .reg [
   ⟨some 66, .mov (.t 9), none⟩,
   ⟨some 67, .mov (.t 12), none⟩,
   ⟨some 68, .callr 29 (.t 66) [.t 67], none⟩,
   ⟨some 12, .mov (.t 68), none⟩]) (
 .seq (
 .reg [
   ⟨some 13, .mov (.k (.val (.int .i64 1))), none⟩]) (
 .seq (
 .reg [
   ⟨some 69, .mov (.t 9), none⟩,
   ⟨some 70, .mov (.t 13), none⟩,
   ⟨some 71, .call 30 [.t 69, .t 70], none⟩,
   ⟨some 13, .mov (.t 71), none⟩]) (
 .seq (
 .seq (
 .reg [
   ⟨some 72, .mov (.t 13), none⟩,
   ⟨some 73, .bin .lss (.t 72) (.k (.val (.int .i64 0))), none⟩]) (
 .cond (.t 73) (
  .seq (
  .reg [
    ⟨some 4, .mov (.k (.val (.bool false))), none⟩]) (
  .ret)) (
  .skip))) (
 .seq (
 .seq (
 .reg [
   ⟨some 74, .mov (.t 13), none⟩,
   ⟨some 75, .mov (.t 12), none⟩,
   ⟨some 76, .bin .neq (.t 74) (.t 75), none⟩]) (
 .cond (.t 76) (
  .seq (
  .reg [
    ⟨some 4, .mov (.k (.val (.bool false))), none⟩]) (
  .ret)) (
  .skip))) (
 .seq (
 .reg [
   ⟨some 78, .mov (.t 0), none⟩,
   ⟨some 79, .call 26 [.t 78], none⟩,
   ⟨some 80, .mov (.t 1), none⟩,
   ⟨some 81, .call 32 [.t 79, .t 80], none⟩,
   ⟨some 77, .mov (.t 81), none⟩,
   ⟨some 82, .ext 0 (.t 77), none⟩,
   ⟨some 83, .ext 1 (.t 77), none⟩,
   ⟨some 14, .mov (.t 82), none⟩,
   ⟨some 15, .mov (.t 83), none⟩]) (
 .seq (
 .seq (
 .reg [
   ⟨some 84, .mov (.t 14), none⟩,
   ⟨some 85, .mov (.t 6), none⟩,
   ⟨some 86, .call 28 [.t 84, .t 85], none⟩,
   ⟨some 87, .un .not (.t 86), none⟩,
   ⟨some 88, .mov (.t 87), none⟩,
   ⟨some 89, .mov (.t 15), some (88, false)⟩,
   ⟨some 90, .mov (.t 7), some (88, false)⟩,
   ⟨some 91, .bin .neq (.t 89) (.t 90), some (88, false)⟩,
   ⟨some 92, .pick (.t 88) (.k (.val (.bool true))) (.t 91), none⟩]) (
 .cond (.t 92) (
  .seq (
  .reg [
    ⟨some 4, .mov (.k (.val (.bool false))), none⟩]) (
  .ret)) (
  .skip))) (
 .seq (
 .reg [
   ⟨some 13, .mov (.k (.val (.int .i64 1))), none⟩]) (
 .seq (
 .reg [
   ⟨some 93, .mov (.t 9), none⟩,
   ⟨some 94, .mov (.t 13), none⟩,
   ⟨some 95, .call 30 [.t 93, .t 94], none⟩,
   ⟨some 13, .mov (.t 95), none⟩]) (
 .seq (
 .seq (
 .reg [
   ⟨some 96, .mov (.t 13), none⟩,
   ⟨some 97, .bin .lss (.t 96) (.k (.val (.int .i64 0))), none⟩]) (
 .cond (.t 97) (
  .seq (
  .reg [
    ⟨some 4, .mov (.k (.val (.bool false))), none⟩]) (
  .ret)) (
  .skip))) (
 .seq (
 .seq (
 .reg [
   ⟨some 98, .mov (.t 13), none⟩,
   ⟨some 99, .mov (.t 12), none⟩,
   ⟨some 100, .bin .neq (.t 98) (.t 99), none⟩]) (
 .cond (.t 100) (
  .seq (
  .reg [
    ⟨some 4, .mov (.k (.val (.bool false))), none⟩]) (
  .ret)) (
  .skip))) (
 .seq (
 .reg [
   ⟨some 4, .mov (.k (.val (.bool true))), none⟩]) (
 .ret)))))))))))))))))))))))))
theorem ok6 : chkFn Tryz.prog 6 ir6 2 [.t 4] = true := by kernel_rfl

/-- loop.example/g00779/laws.FnExactPeerFails -/
def ir7 : PC :=
 .seq (
 .reg [
   ⟨some 6, .mov (.k (.val (.bool false))), none⟩]) (
 .seq (
 .reg [
   ⟨some 7, .mov (.k (.val (.int .i64 1048576))), none⟩]) (
 .seq (
 .reg [
   ⟨some 18, .mov (.t 0), none⟩,
   ⟨some 19, .mov (.t 7), none⟩,
   ⟨some 20, .call 24 [.t 18, .t 19], none⟩,
   ⟨some 7, .mov (.t 20), none⟩]) (
 .seq (
 .seq (
 .reg [
   ⟨some 21, .mov (.t 7), none⟩,
   ⟨some 22, .bin .lss (.t 21) (.k (.val (.int .i64 0))), none⟩]) (
 .cond (.t 22) (
  .seq (
  .reg [
    ⟨some 6, .mov (.k (.val (.bool true))), none⟩]) (
  .ret)) (
  .skip))) (
 .seq (
 .reg [
   ⟨some 24, .mov (.t 0), none⟩,
   ⟨some 25, .call 26 [.t 24], none⟩,
   ⟨some 26, .mov (.t 1), none⟩,
   ⟨some 27, .mov (.t 2), none⟩,
   ⟨some 28, .call 33 [.t 25, .t 26, .t 27], none⟩,
   ⟨some 23, .mov (.t 28), none⟩,
   ⟨some 29, .ext 0 (.t 23), none⟩,
   ⟨some 30, .ext 1 (.t 23), none⟩,
   ⟨some 8, .mov (.t 29), none⟩,
   ⟨some 9, .mov (.t 30), none⟩]) (
 .seq (
 .reg [
   ⟨some 31, .mov (.t 0), none⟩,
   ⟨some 32, .call 26 [.t 31], none⟩,
   ⟨some 10, .mov (.t 32), none⟩]) (
 .seq (
 .reg [
   ⟨some 34, .mov (.t 10), none⟩,
   ⟨some 35, .mov (.t 1), none⟩,
   ⟨some 36, .mov (.t 2), none⟩,
   ⟨some 37, .call 34 [.t 34, .t 35, .t 36], none⟩,
   ⟨some 33, .mov (.t 37), none⟩,
   ⟨some 38, .ext 0 (.t 33), none⟩,
   ⟨some 39, .ext 1 (.t 33), none⟩,
   ⟨some 11, .mov (.t 38), none⟩,
   ⟨some 12, .mov (.t 39), none⟩]) (
 .seq (
 .seq (
 .reg [
   ⟨some 40, .mov (.t 11), none⟩,
   ⟨some 41, .mov (.t 8), none⟩,
   ⟨some 42, .call 28 [.t 40, .t 41], none⟩,
   ⟨some 43, .un .not (.t 42), none⟩,
   ⟨some 44, .mov (.t 43), none⟩,
   ⟨some 45, .mov (.t 12), some (44, false)⟩,
   ⟨some 46, .mov (.t 9), some (44, false)⟩,
   ⟨some 47, .bin .neq (.t 45) (.t 46), some (44, false)⟩,
   ⟨some 48, .pick (.t 44) (.k (.val (.bool true))) (.t 47), none⟩]) (
 .cond (.t 48) (
  .seq (
  .reg [
    ⟨some 6, .mov (.k (.val (.bool false))), none⟩]) (
  .ret)) (
  .skip))) (
 .seq (
 .seq (
 .reg [
   ⟨some 49, .mov (.t 10), none⟩,
   ⟨some 50, .mov (.t 0), none⟩,
   ⟨some 51, .call 26 [.t 50], none⟩,
   ⟨some 52, .call 28 [.t 49, .t 51], none⟩,
   ⟨some 53, .un .not (.t 52), none⟩]) (
 .cond (.t 53) (
  .seq (
  .reg [
    ⟨some 6, .mov (.k (.val (.bool false))), none⟩]) (
  .ret)) (
  .skip))) (
 .seq (
 .reg [
   ⟨some 13, .mov (.k (.val (.int .i64 1))), none⟩]) (
 .seq (
 .reg [
   ⟨some 54, .mov (.t 10), none⟩,
   ⟨some 55, .mov (.t 13), none⟩,
   ⟨some 56, .callr 29 (.t 54) [.t 55], none⟩,
   ⟨some 13, .mov (.t 56), none⟩]) (
 .seq (
 .seq (
 .reg [
   ⟨some 57, .mov (.t 13), none⟩,
   ⟨some 58, .bin .lss (.t 57) (.k (.val (.int .i64 0))), none⟩,
   ⟨some 59, .mov (.t 58), none⟩,
   ⟨some 60, .mov (.t 11), some (59, false)⟩,
   ⟨some 61, .mov (.t 8), some (59, false)⟩,
   ⟨some 62, .call 28 [.t 60, .t 61], some (59, false)⟩,
   ⟨some 63, .un .not (.t 62), some (59, false)⟩,
   ⟨some 64, .pick (.t 59) (.k (.val (.bool true))) (.t 63), none⟩,
   ⟨some 65, .mov (.t 64), none⟩,
   ⟨some 66, .mov (.t 12), some (65, false)⟩,
   ⟨some 67, .mov (.t 9), some (65, false)⟩,
   ⟨some 68, .bin .neq (.t 66) (.t 67), some (65, false)⟩,
   ⟨some 69, .pick (.t 65) (.k (.val (.bool true))) (.t 68), none⟩]) (
 .cond (.t 69) (
  .seq (
  .reg [
    ⟨some 6, .mov (.k (.val (.bool false))), none⟩]) (
  .ret)) (
  .skip))) (
 .seq (
 .reg [
   ⟨some 14, .mov (.k (.val (.int .i64 1))), none⟩]) (
 .seq (
 .reg [
   ⟨some 70, .mov (.t 11), none⟩,
   ⟨some 71, .mov (.t 14), none⟩,
   ⟨some 72, .callr 29 (.t 70) [.t 71], none⟩,
   ⟨some 14, .mov (.t 72), none⟩]) (
 .seq (
 .reg [
   ⟨some 15, .mov (.k (.val (.int .i64 1))), none⟩]) (
 .seq (
 .reg [
   ⟨some 73, .mov (.t 11), none⟩,
   ⟨some 74, .mov (.t 15), none⟩,
   ⟨some 75, .call 30 [.t 73, .t 74], none⟩,
   ⟨some 15, .mov (.t 75), none⟩]) (
 .seq (
 .seq (
 .reg [
   ⟨some 76, .mov (.t 15), none⟩,
   ⟨some 77, .bin .lss (.t 76) (.k (.val (.int .i64 0))), none⟩]) (
 .cond (.t 77) (
  .seq (
  .reg [
    ⟨some 6, .mov (.k (.val (.bool false))), none⟩]) (
  .ret)) (
  .skip))) (
 .seq (
 .seq (
 .reg [
   ⟨some 78, .mov (.t 15), none⟩,
   ⟨some 79, .mov (.t 14), none⟩,
   ⟨some 80, .bin .neq (.t 78) (.t 79), none⟩]) (
 .cond (.t 80) (
  .seq (
  .reg [
    ⟨some 6, .mov (.k (.val (.bool false))), none⟩]) (
  .ret)) (
  .skip))) (
 .seq (
 .reg [
   ⟨some 82, .mov (.t 0), none⟩,
   ⟨some 83, .call 26 [.t 82], none⟩,
   ⟨some 84, .mov (.t 1), none⟩,
   ⟨some 85, .mov (.t 2), none⟩,
   ⟨some 86, .call 34 [.t 83, .t 84, .t 85], none⟩,
   ⟨some 81, .mov (.t 86), none⟩,
   ⟨some 87, .ext 0 (.t 81), none⟩,
   ⟨some 88, .ext 1 (.t 81), none⟩,
   ⟨some 16, .mov (.t 87), none⟩,
   ⟨some 17, .mov (.t 88), none⟩]) (
 .seq (
 .seq (
 .reg [
   ⟨some 89, .mov (.t 16), none⟩,
   ⟨some 90, .mov (.t 8), none⟩,
   ⟨some 91, .call 28 [.t 89, .t 90], none⟩,
   ⟨some 92, .un .not (.t 91), none⟩,
   ⟨some 93, .mov (.t 92), none⟩,
   ⟨some 94, .mov (.t 17), some (93, false)⟩,
   ⟨some 95, .mov (.t 9), some (93, false)⟩,
   ⟨some 96, .bin .neq (.t 94) (.t 95), some (93, false)⟩,
   ⟨some 97, .pick (.t 93) (.k (.val (.bool true))) (.t 96), none⟩]) (
 .cond (.t 97) (
  .seq (
  .reg [
    ⟨some 6, .mov (.k (.val (.bool false))), none⟩]) (
  .ret)) (
  .skip))) (
 .seq (
 .reg [
   ⟨some 15, .mov (.k (.val (.int .i64 1))), none⟩]) (
 .seq (
 .reg [
   ⟨some 98, .mov (.t 11), none⟩,
   ⟨some 99, .mov (.t 15), none⟩,
   ⟨some 100, .call 30 [.t 98, .t 99], none⟩,
   ⟨some 15, .mov (.t 100), none⟩]) (
 .seq (
 .seq (
 .reg [
   ⟨some 101, .mov (.t 15), none⟩,
   ⟨some 102, .bin .lss (.t 101) (.k (.val (.int .i64 0))), none⟩]) (
 .cond (.t 102) (
  .seq (
  .reg [
    ⟨some 6, .mov (.k (.val (.bool false))), none⟩]) (
  .ret)) (
  .skip))) (
 .seq (
 .seq (
 .reg [
   ⟨some 103, .mov (.t 15), none⟩,
   ⟨some 104, .mov (.t 14), none⟩,
   ⟨some 105, .bin .neq (.t 103) (.t 104), none⟩]) (
 .cond (.t 105) (
  .seq (
  .reg [
    ⟨some 6, .mov (.k (.val (.bool false))), none⟩]) (
  .ret)) (
  .skip))) (
 .seq (
 .reg [
   ⟨some 6, .mov (.k (.val (.bool true))), none⟩]) (
 .ret)))))))))))))))))))))))))
theorem ok7 : chkFn Tryz.prog 7 ir7 3 [.t 6] = true := by kernel_rfl

end Go.Proofs
end
