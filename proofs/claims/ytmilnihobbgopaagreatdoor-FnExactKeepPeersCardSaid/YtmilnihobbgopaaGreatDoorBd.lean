/- Bd: merged out of IRv, IRc, IRd. -/
import Derived.Test.YtmilnihobbgopaaGreatDoorPWv
import Derived.Test.YtmilnihobbgopaaGreatDoorChecked
import Derived.KernelRfl

/- Functions of the seat as data. MADE BY PROGRAM (print_ir.py). -/
section
set_option maxRecDepth 100000
namespace Go.Proofs
open Go.PW

/-- loop.example/g00779/spec.NextWake -/
def ir57 : PC :=
 .seq (
 .reg [
   ⟨some 4, .mov (.k (.val (.int .i64 0))), none⟩,
   ⟨some 5, .mov (.k (.val (.int .i64 0))), none⟩]) (
 .seq (
 .seq (
 .reg [
   ⟨some 9, .mov (.t 0), none⟩,
   ⟨some 10, .len (.t 9), none⟩,
   ⟨some 11, .bin .gtr (.t 10) (.k (.val (.int .i64 4096))), none⟩]) (
 .cond (.t 11) (
  .seq (
  .reg [
    ⟨some 4, .mov (.k (.val (.int .i64 0))), none⟩,
    ⟨some 5, .mov (.k (.val (.int .i64 2))), none⟩]) (
  .ret)) (
  .skip))) (
 .seq (
 .seq (
 .reg [
   ⟨some 12, .mov (.t 0), none⟩,
   ⟨some 13, .call 109 [.t 12], none⟩,
   ⟨some 14, .un .not (.t 13), none⟩]) (
 .cond (.t 14) (
  .seq (
  .reg [
    ⟨some 4, .mov (.k (.val (.int .i64 0))), none⟩,
    ⟨some 5, .mov (.k (.val (.int .i64 1))), none⟩]) (
  .ret)) (
  .skip))) (
 .seq (
 .seq (
 .reg [
   ⟨some 15, .mov (.t 1), none⟩,
   ⟨some 16, .call 86 [.t 15, .k (.val (.int .i64 0)), .k (.val (.int .i64 1000000))], none⟩,
   ⟨some 17, .un .not (.t 16), none⟩]) (
 .cond (.t 17) (
  .seq (
  .reg [
    ⟨some 4, .mov (.k (.val (.int .i64 0))), none⟩,
    ⟨some 5, .mov (.k (.val (.int .i64 4))), none⟩]) (
  .ret)) (
  .skip))) (
 .seq (
 .reg [
   ⟨some 6, .mov (.k (.val (.int .i64 (-1)))), none⟩]) (
 .seq (
 .seq (
 .reg [
   ⟨some 7, .mov (.k (.val (.int .i64 0))), none⟩]) (
 .block 0 (
  .loop (.ghost (
   .seq (
   .seq (
   .reg [
     ⟨some 18, .mov (.t 7), none⟩,
     ⟨some 19, .mov (.t 0), none⟩,
     ⟨some 20, .len (.t 19), none⟩,
     ⟨some 21, .bin .lss (.t 18) (.t 20), none⟩]) (
   .cond (.t 21) (
    .skip) (
    .exit 0))) (
   .seq (
   .block 1 (
    .seq (
    .reg [
      ⟨some 24, .mov (.t 1), none⟩,
      ⟨some 25, .mov (.t 0), none⟩,
      ⟨some 26, .mov (.t 7), none⟩,
      ⟨some 27, .iaddr 6 (.t 25) (.t 26), none⟩,
      ⟨some 28, .faddr 4 (.t 27), none⟩,
      ⟨some 29, .load false 1 (.t 28), none⟩,
      ⟨some 30, .mx (.t 24) (.t 29), none⟩,
      ⟨some 8, .mov (.t 30), none⟩]) (
    .seq (
    .reg [
      ⟨some 31, .mov (.t 0), none⟩,
      ⟨some 32, .mov (.t 7), none⟩,
      ⟨some 33, .iaddr 6 (.t 31) (.t 32), none⟩,
      ⟨some 34, .faddr 5 (.t 33), none⟩,
      ⟨some 35, .load false 1 (.t 34), none⟩,
      ⟨some 36, .un .not (.t 35), none⟩,
      ⟨some 37, .mov (.t 36), none⟩,
      ⟨some 38, .mov (.t 6), some (37, true)⟩,
      ⟨some 39, .bin .lss (.t 38) (.k (.val (.int .i64 0))), some (37, true)⟩,
      ⟨some 40, .mov (.t 39), some (37, true)⟩,
      ⟨some 41, .mov (.t 8), some (40, false)⟩,
      ⟨some 42, .mov (.t 6), some (40, false)⟩,
      ⟨some 43, .bin .lss (.t 41) (.t 42), some (40, false)⟩,
      ⟨some 44, .pick (.t 40) (.k (.val (.bool true))) (.t 43), some (37, true)⟩,
      ⟨some 45, .pick (.t 37) (.t 44) (.k (.val (.bool false))), none⟩]) (
    .cond (.t 45) (
     .reg [
       ⟨some 46, .mov (.t 8), none⟩,
       ⟨some 6, .mov (.t 46), none⟩]) (
     .skip))))) (
   .reg [
     ⟨some 22, .mov (.t 7), none⟩,
     ⟨some 23, .bin .add (.t 22) (.k (.val (.int .i64 1))), none⟩,
     ⟨some 7, .mov (.t 23), none⟩]))))))) (
 .seq (
 .seq (
 .reg [
   ⟨some 47, .mov (.t 6), none⟩,
   ⟨some 48, .bin .lss (.t 47) (.k (.val (.int .i64 0))), none⟩]) (
 .cond (.t 48) (
  .seq (
  .reg [
    ⟨some 4, .mov (.k (.val (.int .i64 0))), none⟩,
    ⟨some 5, .mov (.k (.val (.int .i64 5))), none⟩]) (
  .ret)) (
  .skip))) (
 .seq (
 .reg [
   ⟨some 49, .mov (.t 6), none⟩,
   ⟨some 4, .mov (.t 49), none⟩,
   ⟨some 5, .mov (.k (.val (.int .i64 0))), none⟩]) (
 .ret))))))))
theorem ok57 : chkFn Tryz.prog 57 ir57 2 [.t 4, .t 5] = true := by kernel_rfl

/-- loop.example/g00779/laws.szPeerS -/
def ir24 : PC :=
 .seq (
 .reg [
   ⟨some 4, .mov (.k (.val (.int .i64 0))), none⟩]) (
 .seq (
 .reg [
   ⟨some 6, .mov (.t 1), none⟩,
   ⟨some 7, .mov (.t 0), none⟩,
   ⟨some 8, .len (.t 7), none⟩,
   ⟨some 9, .bin .sub (.t 6) (.t 8), none⟩,
   ⟨some 1, .mov (.t 9), none⟩]) (
 .seq (
 .seq (
 .reg [
   ⟨some 10, .mov (.t 1), none⟩,
   ⟨some 11, .bin .lss (.t 10) (.k (.val (.int .i64 0))), none⟩]) (
 .cond (.t 11) (
  .seq (
  .reg [
    ⟨some 4, .mov (.k (.val (.int .i64 (-1)))), none⟩]) (
  .ret)) (
  .skip))) (
 .seq (
 .seq (
 .reg [
   ⟨some 5, .mov (.k (.val (.int .i64 0))), none⟩]) (
 .block 0 (
  .loop (.ghost (
   .seq (
   .seq (
   .reg [
     ⟨some 12, .mov (.t 5), none⟩,
     ⟨some 13, .mov (.t 0), none⟩,
     ⟨some 14, .len (.t 13), none⟩,
     ⟨some 15, .bin .lss (.t 12) (.t 14), none⟩]) (
   .cond (.t 15) (
    .skip) (
    .exit 0))) (
   .seq (
   .block 1 (
    .seq (
    .reg [
      ⟨some 18, .mov (.t 0), none⟩,
      ⟨some 19, .mov (.t 5), none⟩,
      ⟨some 20, .iaddr 6 (.t 18) (.t 19), none⟩,
      ⟨some 21, .load true 6 (.t 20), none⟩,
      ⟨some 22, .mov (.t 1), none⟩,
      ⟨some 23, .call 78 [.t 21, .t 22], none⟩,
      ⟨some 1, .mov (.t 23), none⟩]) (
    .seq (
    .reg [
      ⟨some 24, .mov (.t 1), none⟩,
      ⟨some 25, .bin .lss (.t 24) (.k (.val (.int .i64 0))), none⟩]) (
    .cond (.t 25) (
     .seq (
     .reg [
       ⟨some 4, .mov (.k (.val (.int .i64 (-1)))), none⟩]) (
     .ret)) (
     .skip))))) (
   .reg [
     ⟨some 16, .mov (.t 5), none⟩,
     ⟨some 17, .bin .add (.t 16) (.k (.val (.int .i64 1))), none⟩,
     ⟨some 5, .mov (.t 17), none⟩]))))))) (
 .seq (
 .reg [
   ⟨some 26, .mov (.t 1), none⟩,
   ⟨some 4, .mov (.t 26), none⟩]) (
 .ret)))))
theorem ok24 : chkFn Tryz.prog 24 ir24 2 [.t 4] = true := by kernel_rfl

/-- loop.example/g00779/laws.szPeer -/
def ir78 : PC :=
 .seq (
 .reg [
   ⟨some 2, .box (.t 0), none⟩,
   ⟨some 4, .mov (.k (.val (.int .i64 0))), none⟩]) (
 .seq (
 .reg [
   ⟨some 5, .faddr 0 (.t 2), none⟩,
   ⟨some 6, .load true 3 (.t 5), none⟩,
   ⟨some 7, .mov (.t 1), none⟩,
   ⟨some 8, .call 156 [.t 6, .t 7], none⟩,
   ⟨some 1, .mov (.t 8), none⟩]) (
 .seq (
 .seq (
 .reg [
   ⟨some 9, .mov (.t 1), none⟩,
   ⟨some 10, .bin .lss (.t 9) (.k (.val (.int .i64 0))), none⟩]) (
 .cond (.t 10) (
  .seq (
  .reg [
    ⟨some 4, .mov (.k (.val (.int .i64 (-1)))), none⟩]) (
  .ret)) (
  .skip))) (
 .seq (
 .reg [
   ⟨some 11, .mov (.t 1), none⟩,
   ⟨some 4, .mov (.t 11), none⟩]) (
 .ret))))
theorem ok78 : chkFn Tryz.prog 78 ir78 2 [.t 4] = true := by kernel_rfl

/-- loop.example/g00779/laws.szTarget -/
def ir156 : PC :=
 .seq (
 .reg [
   ⟨some 2, .box (.t 0), none⟩,
   ⟨some 4, .mov (.k (.val (.int .i64 0))), none⟩]) (
 .seq (
 .reg [
   ⟨some 5, .mov (.t 1), none⟩,
   ⟨some 6, .faddr 0 (.t 2), none⟩,
   ⟨some 7, .load false 1 (.t 6), none⟩,
   ⟨some 8, .lens (.t 7), none⟩,
   ⟨some 9, .bin .sub (.t 5) (.t 8), none⟩,
   ⟨some 1, .mov (.t 9), none⟩]) (
 .seq (
 .seq (
 .reg [
   ⟨some 10, .mov (.t 1), none⟩,
   ⟨some 11, .bin .lss (.t 10) (.k (.val (.int .i64 0))), none⟩]) (
 .cond (.t 11) (
  .seq (
  .reg [
    ⟨some 4, .mov (.k (.val (.int .i64 (-1)))), none⟩]) (
  .ret)) (
  .skip))) (
 .seq (
 .reg [
   ⟨some 12, .mov (.t 1), none⟩,
   ⟨some 4, .mov (.t 12), none⟩]) (
 .ret))))
theorem ok156 : chkFn Tryz.prog 156 ir156 2 [.t 4] = true := by kernel_rfl

/-- loop.example/g00779/laws.toPeerS -/
def ir26 : PC :=
 .seq (
 .reg [
   ⟨some 2, .mov (.k (.emp 6)), none⟩]) (
 .seq (
 .reg [
   ⟨some 5, .mov (.t 0), none⟩,
   ⟨some 6, .len (.t 5), none⟩,
   ⟨some 7, .mks 67 6 56 true [.val (.str ⟨#[]⟩), .val (.int .i64 0), .val (.int .i64 0), .val (.int .i64 0), .val (.int .i64 0), .val (.bool false)] (.t 6), none⟩,
   ⟨some 3, .mov (.t 7), none⟩]) (
 .seq (
 .seq (
 .reg [
   ⟨some 4, .mov (.k (.val (.int .i64 0))), none⟩]) (
 .block 0 (
  .loop (.ghost (
   .seq (
   .seq (
   .reg [
     ⟨some 8, .mov (.t 4), none⟩,
     ⟨some 9, .mov (.t 0), none⟩,
     ⟨some 10, .len (.t 9), none⟩,
     ⟨some 11, .bin .lss (.t 8) (.t 10), none⟩]) (
   .cond (.t 11) (
    .skip) (
    .exit 0))) (
   .seq (
   .block 1 (
    .reg [
      ⟨some 14, .mov (.t 3), none⟩,
      ⟨some 15, .mov (.t 4), none⟩,
      ⟨some 16, .mov (.t 0), none⟩,
      ⟨some 17, .mov (.t 4), none⟩,
      ⟨some 18, .iaddr 6 (.t 16) (.t 17), none⟩,
      ⟨some 19, .load true 6 (.t 18), none⟩,
      ⟨some 20, .call 81 [.t 19], none⟩,
      ⟨some 21, .iaddr 6 (.t 14) (.t 15), none⟩,
      ⟨none, .store 6 (.t 21) (.t 20), none⟩])) (
   .reg [
     ⟨some 12, .mov (.t 4), none⟩,
     ⟨some 13, .bin .add (.t 12) (.k (.val (.int .i64 1))), none⟩,
     ⟨some 4, .mov (.t 13), none⟩]))))))) (
 .seq (
 .reg [
   ⟨some 22, .mov (.t 3), none⟩,
   ⟨some 2, .mov (.t 22), none⟩]) (
 .ret))))
theorem ok26 : chkFn Tryz.prog 26 ir26 1 [.t 2] = true := by kernel_rfl

/-- loop.example/g00779/laws.toPeer -/
def ir81 : PC :=
 .seq (
 .reg [
   ⟨some 1, .box (.t 0), none⟩,
   ⟨some 2, .alloc [.val (.str ⟨#[]⟩), .val (.int .i64 0), .val (.int .i64 0), .val (.int .i64 0), .val (.int .i64 0), .val (.bool false)], none⟩]) (
 .seq (
 .reg [
   ⟨some 3, .alloc [.val (.str ⟨#[]⟩), .val (.int .i64 0), .val (.int .i64 0), .val (.int .i64 0), .val (.int .i64 0), .val (.bool false)], none⟩]) (
 .seq (
 .reg [
   ⟨some 4, .faddr 0 (.t 1), none⟩,
   ⟨some 5, .load true 3 (.t 4), none⟩,
   ⟨some 6, .call 158 [.t 5], none⟩,
   ⟨some 7, .faddr 0 (.t 3), none⟩,
   ⟨none, .store 3 (.t 7) (.t 6), none⟩]) (
 .seq (
 .reg [
   ⟨some 8, .faddr 3 (.t 1), none⟩,
   ⟨some 9, .load false 1 (.t 8), none⟩,
   ⟨some 10, .faddr 3 (.t 3), none⟩,
   ⟨none, .store 1 (.t 10) (.t 9), none⟩]) (
 .seq (
 .reg [
   ⟨some 11, .faddr 4 (.t 1), none⟩,
   ⟨some 12, .load false 1 (.t 11), none⟩,
   ⟨some 13, .faddr 4 (.t 3), none⟩,
   ⟨none, .store 1 (.t 13) (.t 12), none⟩]) (
 .seq (
 .reg [
   ⟨some 14, .faddr 5 (.t 1), none⟩,
   ⟨some 15, .load false 1 (.t 14), none⟩,
   ⟨some 16, .faddr 5 (.t 3), none⟩,
   ⟨none, .store 1 (.t 16) (.t 15), none⟩]) (
 .seq (
 .reg [
   ⟨some 17, .load true 6 (.t 3), none⟩,
   ⟨none, .store 6 (.t 2) (.t 17), none⟩]) (
 .ret)))))))
theorem ok81 : chkFn Tryz.prog 81 ir81 1 [.c 2 true 6] = true := by kernel_rfl

/-- loop.example/g00779/laws.toTarget -/
def ir158 : PC :=
 .seq (
 .reg [
   ⟨some 1, .box (.t 0), none⟩,
   ⟨some 2, .alloc [.val (.str ⟨#[]⟩), .val (.int .i64 0), .val (.int .i64 0)], none⟩]) (
 .seq (
 .reg [
   ⟨some 3, .alloc [.val (.str ⟨#[]⟩), .val (.int .i64 0), .val (.int .i64 0)], none⟩]) (
 .seq (
 .reg [
   ⟨some 4, .faddr 0 (.t 1), none⟩,
   ⟨some 5, .load false 1 (.t 4), none⟩,
   ⟨some 6, .faddr 0 (.t 3), none⟩,
   ⟨none, .store 1 (.t 6) (.t 5), none⟩]) (
 .seq (
 .reg [
   ⟨some 7, .faddr 1 (.t 1), none⟩,
   ⟨some 8, .load false 1 (.t 7), none⟩,
   ⟨some 9, .faddr 1 (.t 3), none⟩,
   ⟨none, .store 1 (.t 9) (.t 8), none⟩]) (
 .seq (
 .reg [
   ⟨some 10, .faddr 2 (.t 1), none⟩,
   ⟨some 11, .load false 1 (.t 10), none⟩,
   ⟨some 12, .faddr 2 (.t 3), none⟩,
   ⟨none, .store 1 (.t 12) (.t 11), none⟩]) (
 .seq (
 .reg [
   ⟨some 13, .load true 3 (.t 3), none⟩,
   ⟨none, .store 3 (.t 2) (.t 13), none⟩]) (
 .ret))))))
theorem ok158 : chkFn Tryz.prog 158 ir158 1 [.c 2 true 3] = true := by kernel_rfl

/-- loop.example/g00779/laws.eqPeerS -/
def ir28 : PC :=
 .seq (
 .reg [
   ⟨some 4, .mov (.k (.val (.bool false))), none⟩]) (
 .seq (
 .seq (
 .reg [
   ⟨some 6, .mov (.t 0), none⟩,
   ⟨some 7, .len (.t 6), none⟩,
   ⟨some 8, .mov (.t 1), none⟩,
   ⟨some 9, .len (.t 8), none⟩,
   ⟨some 10, .bin .neq (.t 7) (.t 9), none⟩]) (
 .cond (.t 10) (
  .seq (
  .reg [
    ⟨some 4, .mov (.k (.val (.bool false))), none⟩]) (
  .ret)) (
  .skip))) (
 .seq (
 .seq (
 .reg [
   ⟨some 5, .mov (.k (.val (.int .i64 0))), none⟩]) (
 .block 0 (
  .loop (.ghost (
   .seq (
   .seq (
   .reg [
     ⟨some 11, .mov (.t 5), none⟩,
     ⟨some 12, .mov (.t 0), none⟩,
     ⟨some 13, .len (.t 12), none⟩,
     ⟨some 14, .bin .lss (.t 11) (.t 13), none⟩]) (
   .cond (.t 14) (
    .skip) (
    .exit 0))) (
   .seq (
   .block 1 (
    .seq (
    .draw [
      ⟨some 17, .mov (.t 0), none⟩,
      ⟨some 18, .mov (.t 5), none⟩,
      ⟨some 19, .iaddr 6 (.t 17) (.t 18), none⟩,
      ⟨some 20, .load true 6 (.t 19), none⟩,
      ⟨some 21, .mov (.t 1), none⟩,
      ⟨some 22, .mov (.t 5), none⟩,
      ⟨some 23, .iaddr 6 (.t 21) (.t 22), none⟩,
      ⟨some 24, .load true 6 (.t 23), none⟩] [
      ⟨some 25, .call 84 [.t 20, .t 24], none⟩,
      ⟨some 26, .un .not (.t 25), none⟩]) (
    .cond (.t 26) (
     .seq (
     .reg [
       ⟨some 4, .mov (.k (.val (.bool false))), none⟩]) (
     .ret)) (
     .skip)))) (
   .reg [
     ⟨some 15, .mov (.t 5), none⟩,
     ⟨some 16, .bin .add (.t 15) (.k (.val (.int .i64 1))), none⟩,
     ⟨some 5, .mov (.t 16), none⟩]))))))) (
 .seq (
 .reg [
   ⟨some 4, .mov (.k (.val (.bool true))), none⟩]) (
 .ret))))
theorem ok28 : chkFn Tryz.prog 28 ir28 2 [.t 4] = true := by kernel_rfl

/-- loop.example/g00779/laws.eqPeer -/
def ir84 : PC :=
 .seq (
 .reg [
   ⟨some 2, .box (.t 0), none⟩,
   ⟨some 3, .box (.t 1), none⟩,
   ⟨some 4, .mov (.k (.val (.bool false))), none⟩]) (
 .seq (
 .seq (
 .reg [
   ⟨some 5, .faddr 0 (.t 2), none⟩,
   ⟨some 6, .load true 3 (.t 5), none⟩,
   ⟨some 7, .faddr 0 (.t 3), none⟩,
   ⟨some 8, .load true 3 (.t 7), none⟩,
   ⟨some 9, .call 159 [.t 6, .t 8], none⟩,
   ⟨some 10, .un .not (.t 9), none⟩]) (
 .cond (.t 10) (
  .seq (
  .reg [
    ⟨some 4, .mov (.k (.val (.bool false))), none⟩]) (
  .ret)) (
  .skip))) (
 .seq (
 .seq (
 .reg [
   ⟨some 11, .faddr 3 (.t 2), none⟩,
   ⟨some 12, .load false 1 (.t 11), none⟩,
   ⟨some 13, .faddr 3 (.t 3), none⟩,
   ⟨some 14, .load false 1 (.t 13), none⟩,
   ⟨some 15, .bin .neq (.t 12) (.t 14), none⟩]) (
 .cond (.t 15) (
  .seq (
  .reg [
    ⟨some 4, .mov (.k (.val (.bool false))), none⟩]) (
  .ret)) (
  .skip))) (
 .seq (
 .seq (
 .reg [
   ⟨some 16, .faddr 4 (.t 2), none⟩,
   ⟨some 17, .load false 1 (.t 16), none⟩,
   ⟨some 18, .faddr 4 (.t 3), none⟩,
   ⟨some 19, .load false 1 (.t 18), none⟩,
   ⟨some 20, .bin .neq (.t 17) (.t 19), none⟩]) (
 .cond (.t 20) (
  .seq (
  .reg [
    ⟨some 4, .mov (.k (.val (.bool false))), none⟩]) (
  .ret)) (
  .skip))) (
 .seq (
 .seq (
 .reg [
   ⟨some 21, .faddr 5 (.t 2), none⟩,
   ⟨some 22, .load false 1 (.t 21), none⟩,
   ⟨some 23, .faddr 5 (.t 3), none⟩,
   ⟨some 24, .load false 1 (.t 23), none⟩,
   ⟨some 25, .eqb true (.t 22) (.t 24), none⟩]) (
 .cond (.t 25) (
  .seq (
  .reg [
    ⟨some 4, .mov (.k (.val (.bool false))), none⟩]) (
  .ret)) (
  .skip))) (
 .seq (
 .reg [
   ⟨some 4, .mov (.k (.val (.bool true))), none⟩]) (
 .ret))))))
theorem ok84 : chkFn Tryz.prog 84 ir84 2 [.t 4] = true := by kernel_rfl

/-- loop.example/g00779/laws.eqTarget -/
def ir159 : PC :=
 .seq (
 .reg [
   ⟨some 2, .box (.t 0), none⟩,
   ⟨some 3, .box (.t 1), none⟩,
   ⟨some 4, .mov (.k (.val (.bool false))), none⟩]) (
 .seq (
 .seq (
 .reg [
   ⟨some 5, .faddr 0 (.t 2), none⟩,
   ⟨some 6, .load false 1 (.t 5), none⟩,
   ⟨some 7, .faddr 0 (.t 3), none⟩,
   ⟨some 8, .load false 1 (.t 7), none⟩,
   ⟨some 9, .bin .neq (.t 6) (.t 8), none⟩]) (
 .cond (.t 9) (
  .seq (
  .reg [
    ⟨some 4, .mov (.k (.val (.bool false))), none⟩]) (
  .ret)) (
  .skip))) (
 .seq (
 .seq (
 .reg [
   ⟨some 10, .faddr 1 (.t 2), none⟩,
   ⟨some 11, .load false 1 (.t 10), none⟩,
   ⟨some 12, .faddr 1 (.t 3), none⟩,
   ⟨some 13, .load false 1 (.t 12), none⟩,
   ⟨some 14, .bin .neq (.t 11) (.t 13), none⟩]) (
 .cond (.t 14) (
  .seq (
  .reg [
    ⟨some 4, .mov (.k (.val (.bool false))), none⟩]) (
  .ret)) (
  .skip))) (
 .seq (
 .seq (
 .reg [
   ⟨some 15, .faddr 2 (.t 2), none⟩,
   ⟨some 16, .load false 1 (.t 15), none⟩,
   ⟨some 17, .faddr 2 (.t 3), none⟩,
   ⟨some 18, .load false 1 (.t 17), none⟩,
   ⟨some 19, .bin .neq (.t 16) (.t 18), none⟩]) (
 .cond (.t 19) (
  .seq (
  .reg [
    ⟨some 4, .mov (.k (.val (.bool false))), none⟩]) (
  .ret)) (
  .skip))) (
 .seq (
 .reg [
   ⟨some 4, .mov (.k (.val (.bool true))), none⟩]) (
 .ret)))))
theorem ok159 : chkFn Tryz.prog 159 ir159 2 [.t 4] = true := by kernel_rfl

end Go.Proofs
end

/- Functions of the seat as data. MADE BY PROGRAM (print_ir.py). -/
section
set_option maxRecDepth 100000
namespace Go.Proofs
open Go.PW

/-- loop.example/g00779/spec.l07Ready -/
def ir186 : PC :=
 .seq (
 .reg [
   ⟨some 2, .box (.t 0), none⟩,
   ⟨some 4, .mov (.k (.val (.bool false))), none⟩]) (
 .seq (
 .reg [
   ⟨some 5, .faddr 5 (.t 2), none⟩,
   ⟨some 6, .load false 1 (.t 5), none⟩,
   ⟨some 7, .un .not (.t 6), none⟩,
   ⟨some 8, .mov (.t 7), none⟩,
   ⟨some 9, .faddr 4 (.t 2), some (8, true)⟩,
   ⟨some 10, .load false 1 (.t 9), some (8, true)⟩,
   ⟨some 11, .mov (.t 1), some (8, true)⟩,
   ⟨some 12, .bin .leq (.t 10) (.t 11), some (8, true)⟩,
   ⟨some 13, .pick (.t 8) (.t 12) (.k (.val (.bool false))), none⟩,
   ⟨some 4, .mov (.t 13), none⟩]) (
 .ret))
theorem ok186 : chkFn Tryz.prog 186 ir186 2 [.t 4] = true := by kernel_rfl

def ir119_l13 : PC :=
 .seq (
 .seq (
 .reg [
   ⟨some 13, .mov (.t 9), none⟩,
   ⟨some 14, .mov (.t 0), none⟩,
   ⟨some 15, .len (.t 14), none⟩,
   ⟨some 16, .bin .lss (.t 13) (.t 15), none⟩]) (
 .cond (.t 16) (
  .skip) (
  .exit 0))) (
 .seq (
 .block 1 (
  .seq (
  .reg [
    ⟨some 19, .mov (.t 0), none⟩,
    ⟨some 20, .mov (.t 9), none⟩,
    ⟨some 21, .iaddr 6 (.t 19) (.t 20), none⟩,
    ⟨some 22, .faddr 0 (.t 21), none⟩,
    ⟨some 23, .faddr 1 (.t 22), none⟩,
    ⟨some 24, .load false 1 (.t 23), none⟩,
    ⟨some 10, .mov (.t 24), none⟩]) (
  .seq (
  .seq (
  .reg [
    ⟨some 25, .mov (.t 0), none⟩,
    ⟨some 26, .mov (.t 9), none⟩,
    ⟨some 27, .iaddr 6 (.t 25) (.t 26), none⟩,
    ⟨some 28, .load true 6 (.t 27), none⟩,
    ⟨some 29, .mov (.t 1), none⟩,
    ⟨some 30, .call 186 [.t 28, .t 29], none⟩,
    ⟨some 31, .un .not (.t 30), none⟩,
    ⟨some 32, .mov (.t 31), none⟩,
    ⟨some 33, .mov (.t 8), some (32, false)⟩,
    ⟨some 34, .bin .gtr (.t 33) (.k (.val (.int .i64 0))), some (32, false)⟩,
    ⟨some 35, .mov (.t 34), some (32, false)⟩,
    ⟨some 36, .mov (.t 10), some (35, true)⟩,
    ⟨some 37, .mov (.t 7), some (35, true)⟩,
    ⟨some 38, .bin .gtr (.t 36) (.t 37), some (35, true)⟩,
    ⟨some 39, .pick (.t 35) (.t 38) (.k (.val (.bool false))), some (32, false)⟩,
    ⟨some 40, .pick (.t 32) (.k (.val (.bool true))) (.t 39), none⟩]) (
  .cond (.t 40) (
   .exit 1) (
   .skip))) (
  .seq (
  .seq (
  .reg [
    ⟨some 41, .mov (.t 8), none⟩,
    ⟨some 42, .bin .eql (.t 41) (.k (.val (.int .i64 0))), none⟩,
    ⟨some 43, .mov (.t 42), none⟩,
    ⟨some 44, .mov (.t 10), some (43, false)⟩,
    ⟨some 45, .mov (.t 7), some (43, false)⟩,
    ⟨some 46, .bin .lss (.t 44) (.t 45), some (43, false)⟩,
    ⟨some 47, .pick (.t 43) (.k (.val (.bool true))) (.t 46), none⟩]) (
  .cond (.t 47) (
   .seq (
   .reg [
     ⟨some 48, .mov (.t 10), none⟩,
     ⟨some 7, .mov (.t 48), none⟩]) (
   .reg [
     ⟨some 8, .mov (.k (.val (.int .i64 0))), none⟩])) (
   .skip))) (
  .reg [
    ⟨some 49, .mov (.t 8), none⟩,
    ⟨some 50, .mov (.t 0), none⟩,
    ⟨some 51, .mov (.t 9), none⟩,
    ⟨some 52, .iaddr 6 (.t 50) (.t 51), none⟩,
    ⟨some 53, .faddr 0 (.t 52), none⟩,
    ⟨some 54, .faddr 2 (.t 53), none⟩,
    ⟨some 55, .load false 1 (.t 54), none⟩,
    ⟨some 56, .bin .add (.t 49) (.t 55), none⟩,
    ⟨some 8, .mov (.t 56), none⟩]))))) (
 .reg [
   ⟨some 17, .mov (.t 9), none⟩,
   ⟨some 18, .bin .add (.t 17) (.k (.val (.int .i64 1))), none⟩,
   ⟨some 9, .mov (.t 18), none⟩]))
def ir119_l64 : PC :=
 .seq (
 .block 3 (
  .seq (
  .seq (
  .reg [
    ⟨some 64, .mov (.t 0), none⟩,
    ⟨some 65, .mov (.t 12), none⟩,
    ⟨some 66, .iaddr 6 (.t 64) (.t 65), none⟩,
    ⟨some 67, .load true 6 (.t 66), none⟩,
    ⟨some 68, .mov (.t 1), none⟩,
    ⟨some 69, .call 186 [.t 67, .t 68], none⟩,
    ⟨some 70, .un .not (.t 69), none⟩,
    ⟨some 71, .mov (.t 70), none⟩,
    ⟨some 72, .mov (.t 0), some (71, false)⟩,
    ⟨some 73, .mov (.t 12), some (71, false)⟩,
    ⟨some 74, .iaddr 6 (.t 72) (.t 73), some (71, false)⟩,
    ⟨some 75, .faddr 0 (.t 74), some (71, false)⟩,
    ⟨some 76, .faddr 1 (.t 75), some (71, false)⟩,
    ⟨some 77, .load false 1 (.t 76), some (71, false)⟩,
    ⟨some 78, .mov (.t 7), some (71, false)⟩,
    ⟨some 79, .bin .neq (.t 77) (.t 78), some (71, false)⟩,
    ⟨some 80, .pick (.t 71) (.k (.val (.bool true))) (.t 79), none⟩]) (
  .cond (.t 80) (
   .exit 3) (
   .skip))) (
  .seq (
  .seq (
  .reg [
    ⟨some 81, .mov (.t 11), none⟩,
    ⟨some 82, .mov (.t 0), none⟩,
    ⟨some 83, .mov (.t 12), none⟩,
    ⟨some 84, .iaddr 6 (.t 82) (.t 83), none⟩,
    ⟨some 85, .faddr 0 (.t 84), none⟩,
    ⟨some 86, .faddr 2 (.t 85), none⟩,
    ⟨some 87, .load false 1 (.t 86), none⟩,
    ⟨some 88, .bin .lss (.t 81) (.t 87), none⟩]) (
  .cond (.t 88) (
   .seq (
   .reg [
     ⟨some 89, .mov (.t 12), none⟩,
     ⟨some 6, .mov (.t 89), none⟩]) (
   .ret)) (
   .skip))) (
  .reg [
    ⟨some 90, .mov (.t 11), none⟩,
    ⟨some 91, .mov (.t 0), none⟩,
    ⟨some 92, .mov (.t 12), none⟩,
    ⟨some 93, .iaddr 6 (.t 91) (.t 92), none⟩,
    ⟨some 94, .faddr 0 (.t 93), none⟩,
    ⟨some 95, .faddr 2 (.t 94), none⟩,
    ⟨some 96, .load false 1 (.t 95), none⟩,
    ⟨some 97, .bin .sub (.t 90) (.t 96), none⟩,
    ⟨some 11, .mov (.t 97), none⟩])))) (
 .reg [
   ⟨some 62, .mov (.t 12), none⟩,
   ⟨some 63, .bin .add (.t 62) (.k (.val (.int .i64 1))), none⟩,
   ⟨some 12, .mov (.t 63), none⟩])
/-- loop.example/g00779/spec.l07Choose -/
def ir119 : PC :=
 .seq (
 .reg [
   ⟨some 6, .mov (.k (.val (.int .i64 0))), none⟩]) (
 .seq (
 .reg [
   ⟨some 7, .mov (.k (.val (.int .i64 0))), none⟩]) (
 .seq (
 .reg [
   ⟨some 8, .mov (.k (.val (.int .i64 0))), none⟩]) (
 .seq (
 .seq (
 .reg [
   ⟨some 9, .mov (.k (.val (.int .i64 0))), none⟩]) (
 .block 0 (
  .loop (.ghost ir119_l13)))) (
 .seq (
 .seq (
 .reg [
   ⟨some 57, .mov (.t 8), none⟩,
   ⟨some 58, .bin .eql (.t 57) (.k (.val (.int .i64 0))), none⟩]) (
 .cond (.t 58) (
  .seq (
  .reg [
    ⟨some 6, .mov (.k (.val (.int .i64 (-1)))), none⟩]) (
  .ret)) (
  .skip))) (
 .seq (
 .reg [
   ⟨some 59, .mov (.t 2), none⟩,
   ⟨some 60, .mov (.t 8), none⟩,
   ⟨some 61, .bin .rem (.t 59) (.t 60), none⟩,
   ⟨some 11, .mov (.t 61), none⟩]) (
 .seq (
 .reg [
   ⟨some 12, .mov (.k (.val (.int .i64 0))), none⟩]) (
 .block 2 (
  .loop (.ghost ir119_l64)))))))))
theorem ok119 : chkFn Tryz.prog 119 ir119 3 [.t 6] = true := by kernel_rfl

/-- loop.example/g00779/spec.Choose -/
def ir55 : PC :=
 .seq (
 .reg [
   ⟨some 6, .mov (.k (.val (.int .i64 0))), none⟩,
   ⟨some 7, .mov (.k (.val (.int .i64 0))), none⟩]) (
 .seq (
 .seq (
 .reg [
   ⟨some 9, .mov (.t 0), none⟩,
   ⟨some 10, .len (.t 9), none⟩,
   ⟨some 11, .bin .gtr (.t 10) (.k (.val (.int .i64 4096))), none⟩]) (
 .cond (.t 11) (
  .seq (
  .reg [
    ⟨some 6, .mov (.k (.val (.int .i64 0))), none⟩,
    ⟨some 7, .mov (.k (.val (.int .i64 2))), none⟩]) (
  .ret)) (
  .skip))) (
 .seq (
 .seq (
 .reg [
   ⟨some 12, .mov (.t 0), none⟩,
   ⟨some 13, .call 109 [.t 12], none⟩,
   ⟨some 14, .un .not (.t 13), none⟩]) (
 .cond (.t 14) (
  .seq (
  .reg [
    ⟨some 6, .mov (.k (.val (.int .i64 0))), none⟩,
    ⟨some 7, .mov (.k (.val (.int .i64 1))), none⟩]) (
  .ret)) (
  .skip))) (
 .seq (
 .seq (
 .reg [
   ⟨some 15, .mov (.t 1), none⟩,
   ⟨some 16, .call 86 [.t 15, .k (.val (.int .i64 0)), .k (.val (.int .i64 1000000))], none⟩,
   ⟨some 17, .un .not (.t 16), none⟩,
   ⟨some 18, .mov (.t 17), none⟩,
   ⟨some 19, .mov (.t 2), some (18, false)⟩,
   ⟨some 20, .call 86 [.t 19, .k (.val (.int .i64 0)), .k (.val (.int .i64 1000000))], some (18, false)⟩,
   ⟨some 21, .un .not (.t 20), some (18, false)⟩,
   ⟨some 22, .pick (.t 18) (.k (.val (.bool true))) (.t 21), none⟩]) (
 .cond (.t 22) (
  .seq (
  .reg [
    ⟨some 6, .mov (.k (.val (.int .i64 0))), none⟩,
    ⟨some 7, .mov (.k (.val (.int .i64 4))), none⟩]) (
  .ret)) (
  .skip))) (
 .seq (
 .reg [
   ⟨some 23, .mov (.t 0), none⟩,
   ⟨some 24, .mov (.t 1), none⟩,
   ⟨some 25, .mov (.t 2), none⟩,
   ⟨some 26, .call 119 [.t 23, .t 24, .t 25], none⟩,
   ⟨some 8, .mov (.t 26), none⟩]) (
 .seq (
 .seq (
 .reg [
   ⟨some 27, .mov (.t 8), none⟩,
   ⟨some 28, .bin .lss (.t 27) (.k (.val (.int .i64 0))), none⟩]) (
 .cond (.t 28) (
  .seq (
  .reg [
    ⟨some 6, .mov (.k (.val (.int .i64 0))), none⟩,
    ⟨some 7, .mov (.k (.val (.int .i64 5))), none⟩]) (
  .ret)) (
  .skip))) (
 .seq (
 .reg [
   ⟨some 29, .mov (.t 8), none⟩,
   ⟨some 6, .mov (.t 29), none⟩,
   ⟨some 7, .mov (.k (.val (.int .i64 0))), none⟩]) (
 .ret)))))))
theorem ok55 : chkFn Tryz.prog 55 ir55 3 [.t 6, .t 7] = true := by kernel_rfl

def ir118_l16 : PC :=
 .seq (
 .reg [
   ⟨some 16, .bin .lss (.t 15) (.t 14), none⟩]) (
 .seq (
 .cond (.t 16) (
  .skip) (
  .exit 0)) (
 .seq (
 .block 1 (
  .seq (
  .reg [
    ⟨some 17, .iaddr 6 (.t 13) (.t 15), none⟩,
    ⟨some 18, .load true 6 (.t 17), none⟩,
    ⟨some 10, .alloc [.val (.str ⟨#[]⟩), .val (.int .i64 0), .val (.int .i64 0), .val (.int .i64 0), .val (.int .i64 0), .val (.bool false)], none⟩,
    ⟨none, .store 6 (.t 10) (.t 18), none⟩]) (
  .seq (
  .seq (
  .reg [
    ⟨some 19, .faddr 5 (.t 10), none⟩,
    ⟨some 20, .load false 1 (.t 19), none⟩,
    ⟨some 21, .mov (.t 20), none⟩,
    ⟨some 22, .faddr 4 (.t 10), some (21, false)⟩,
    ⟨some 23, .load false 1 (.t 22), some (21, false)⟩,
    ⟨some 24, .mov (.t 1), some (21, false)⟩,
    ⟨some 25, .bin .gtr (.t 23) (.t 24), some (21, false)⟩,
    ⟨some 26, .pick (.t 21) (.k (.val (.bool true))) (.t 25), none⟩]) (
  .cond (.t 26) (
   .exit 1) (
   .skip))) (
  .seq (
  .seq (
  .reg [
    ⟨some 27, .faddr 0 (.t 10), none⟩,
    ⟨some 28, .faddr 1 (.t 27), none⟩,
    ⟨some 29, .load false 1 (.t 28), none⟩,
    ⟨some 30, .mov (.t 7), none⟩,
    ⟨some 31, .bin .lss (.t 29) (.t 30), none⟩]) (
  .cond (.t 31) (
   .reg [
     ⟨some 32, .faddr 0 (.t 10), none⟩,
     ⟨some 33, .faddr 1 (.t 32), none⟩,
     ⟨some 34, .load false 1 (.t 33), none⟩,
     ⟨some 7, .mov (.t 34), none⟩,
     ⟨some 8, .mov (.k (.val (.int .i64 0))), none⟩]) (
   .skip))) (
  .seq (
  .reg [
    ⟨some 35, .faddr 0 (.t 10), none⟩,
    ⟨some 36, .faddr 1 (.t 35), none⟩,
    ⟨some 37, .load false 1 (.t 36), none⟩,
    ⟨some 38, .mov (.t 7), none⟩,
    ⟨some 39, .bin .eql (.t 37) (.t 38), none⟩]) (
  .cond (.t 39) (
   .reg [
     ⟨some 40, .mov (.t 8), none⟩,
     ⟨some 41, .faddr 0 (.t 10), none⟩,
     ⟨some 42, .faddr 2 (.t 41), none⟩,
     ⟨some 43, .load false 1 (.t 42), none⟩,
     ⟨some 44, .bin .add (.t 40) (.t 43), none⟩,
     ⟨some 8, .mov (.t 44), none⟩]) (
   .skip))))))) (
 .reg [
   ⟨some 45, .bin .add (.t 15) (.k (.val (.int .i64 1))), none⟩,
   ⟨some 15, .mov (.t 45), none⟩])))
def ir118_l54 : PC :=
 .seq (
 .reg [
   ⟨some 54, .bin .lss (.t 53) (.t 52), none⟩]) (
 .seq (
 .cond (.t 54) (
  .skip) (
  .exit 2)) (
 .seq (
 .block 3 (
  .seq (
  .reg [
    ⟨some 55, .mov (.t 53), none⟩,
    ⟨some 56, .iaddr 6 (.t 51) (.t 53), none⟩,
    ⟨some 57, .load true 6 (.t 56), none⟩,
    ⟨some 12, .alloc [.val (.str ⟨#[]⟩), .val (.int .i64 0), .val (.int .i64 0), .val (.int .i64 0), .val (.int .i64 0), .val (.bool false)], none⟩,
    ⟨some 11, .mov (.t 55), none⟩,
    ⟨none, .store 6 (.t 12) (.t 57), none⟩]) (
  .seq (
  .seq (
  .reg [
    ⟨some 58, .faddr 5 (.t 12), none⟩,
    ⟨some 59, .load false 1 (.t 58), none⟩,
    ⟨some 60, .mov (.t 59), none⟩,
    ⟨some 61, .faddr 4 (.t 12), some (60, false)⟩,
    ⟨some 62, .load false 1 (.t 61), some (60, false)⟩,
    ⟨some 63, .mov (.t 1), some (60, false)⟩,
    ⟨some 64, .bin .gtr (.t 62) (.t 63), some (60, false)⟩,
    ⟨some 65, .pick (.t 60) (.k (.val (.bool true))) (.t 64), none⟩,
    ⟨some 66, .mov (.t 65), none⟩,
    ⟨some 67, .faddr 0 (.t 12), some (66, false)⟩,
    ⟨some 68, .faddr 1 (.t 67), some (66, false)⟩,
    ⟨some 69, .load false 1 (.t 68), some (66, false)⟩,
    ⟨some 70, .mov (.t 7), some (66, false)⟩,
    ⟨some 71, .bin .neq (.t 69) (.t 70), some (66, false)⟩,
    ⟨some 72, .pick (.t 66) (.k (.val (.bool true))) (.t 71), none⟩]) (
  .cond (.t 72) (
   .exit 3) (
   .skip))) (
  .seq (
  .seq (
  .reg [
    ⟨some 73, .mov (.t 2), none⟩,
    ⟨some 74, .faddr 0 (.t 12), none⟩,
    ⟨some 75, .faddr 2 (.t 74), none⟩,
    ⟨some 76, .load false 1 (.t 75), none⟩,
    ⟨some 77, .bin .lss (.t 73) (.t 76), none⟩]) (
  .cond (.t 77) (
   .seq (
   .reg [
     ⟨some 78, .mov (.t 11), none⟩,
     ⟨some 6, .mov (.t 78), none⟩]) (
   .ret)) (
   .skip))) (
  .reg [
    ⟨some 79, .mov (.t 2), none⟩,
    ⟨some 80, .faddr 0 (.t 12), none⟩,
    ⟨some 81, .faddr 2 (.t 80), none⟩,
    ⟨some 82, .load false 1 (.t 81), none⟩,
    ⟨some 83, .bin .sub (.t 79) (.t 82), none⟩,
    ⟨some 2, .mov (.t 83), none⟩]))))) (
 .reg [
   ⟨some 84, .bin .add (.t 53) (.k (.val (.int .i64 1))), none⟩,
   ⟨some 53, .mov (.t 84), none⟩])))
/-- loop.example/g00779/impl.choose -/
def ir118 : PC :=
 .seq (
 .reg [
   ⟨some 6, .mov (.k (.val (.int .i64 0))), none⟩]) (
 .seq (
 .reg [
   ⟨some 7, .mov (.k (.val (.int .i64 10))), none⟩,
   ⟨some 8, .mov (.k (.val (.int .i64 0))), none⟩]) (
 .seq (
 .seq (
 .reg [
   ⟨some 13, .mov (.t 0), none⟩,
   ⟨some 14, .len (.t 13), none⟩,
   ⟨some 15, .mov (.k (.val (.int .i64 0))), none⟩]) (
 .block 0 (
  .loop (.ghost ir118_l16)))) (
 .seq (
 .seq (
 .reg [
   ⟨some 46, .mov (.t 8), none⟩,
   ⟨some 47, .bin .eql (.t 46) (.k (.val (.int .i64 0))), none⟩]) (
 .cond (.t 47) (
  .seq (
  .reg [
    ⟨some 6, .mov (.k (.val (.int .i64 (-1)))), none⟩]) (
  .ret)) (
  .skip))) (
 .seq (
 .reg [
   ⟨some 48, .mov (.t 2), none⟩,
   ⟨some 49, .mov (.t 8), none⟩,
   ⟨some 50, .bin .rem (.t 48) (.t 49), none⟩,
   ⟨some 2, .mov (.t 50), none⟩]) (
 .seq (
 .seq (
 .reg [
   ⟨some 51, .mov (.t 0), none⟩,
   ⟨some 52, .len (.t 51), none⟩,
   ⟨some 53, .mov (.k (.val (.int .i64 0))), none⟩]) (
 .block 2 (
  .loop (.ghost ir118_l54)))) (
 .seq (
 .reg [
   ⟨some 6, .mov (.k (.val (.int .i64 (-1)))), none⟩]) (
 .ret)))))))
theorem ok118 : chkFn Tryz.prog 118 ir118 3 [.t 6] = true := by kernel_rfl

/-- loop.example/g00779/impl.Choose -/
def ir54 : PC :=
 .seq (
 .reg [
   ⟨some 6, .mov (.k (.val (.int .i64 0))), none⟩,
   ⟨some 7, .mov (.k (.val (.int .i64 0))), none⟩]) (
 .seq (
 .seq (
 .reg [
   ⟨some 10, .mov (.t 0), none⟩,
   ⟨some 11, .call 106 [.t 10], none⟩,
   ⟨some 12, .mov (.t 1), none⟩,
   ⟨some 13, .call 90 [.t 12], none⟩,
   ⟨some 14, .mov (.t 13), none⟩,
   ⟨some 15, .mov (.t 2), some (14, true)⟩,
   ⟨some 16, .call 90 [.t 15], some (14, true)⟩,
   ⟨some 17, .pick (.t 14) (.t 16) (.k (.val (.bool false))), none⟩,
   ⟨some 18, .call 89 [.t 17, .k (.val (.int .i64 4))], none⟩,
   ⟨some 19, .lit 3 1 [.t 11, .t 18], none⟩,
   ⟨some 20, .call 88 [.t 19], none⟩,
   ⟨some 8, .mov (.t 20), none⟩]) (
 .seq (
 .reg [
   ⟨some 21, .mov (.t 8), none⟩,
   ⟨some 22, .bin .neq (.t 21) (.k (.val (.int .i64 0))), none⟩]) (
 .cond (.t 22) (
  .seq (
  .reg [
    ⟨some 23, .mov (.t 8), none⟩,
    ⟨some 6, .mov (.k (.val (.int .i64 0))), none⟩,
    ⟨some 7, .mov (.t 23), none⟩]) (
  .ret)) (
  .skip)))) (
 .seq (
 .reg [
   ⟨some 24, .mov (.t 0), none⟩,
   ⟨some 25, .mov (.t 1), none⟩,
   ⟨some 26, .mov (.t 2), none⟩,
   ⟨some 27, .call 118 [.t 24, .t 25, .t 26], none⟩,
   ⟨some 9, .mov (.t 27), none⟩]) (
 .seq (
 .seq (
 .reg [
   ⟨some 28, .mov (.t 9), none⟩,
   ⟨some 29, .bin .lss (.t 28) (.k (.val (.int .i64 0))), none⟩]) (
 .cond (.t 29) (
  .seq (
  .reg [
    ⟨some 6, .mov (.k (.val (.int .i64 0))), none⟩,
    ⟨some 7, .mov (.k (.val (.int .i64 5))), none⟩]) (
  .ret)) (
  .skip))) (
 .seq (
 .reg [
   ⟨some 30, .mov (.t 9), none⟩,
   ⟨some 6, .mov (.t 30), none⟩,
   ⟨some 7, .mov (.k (.val (.int .i64 0))), none⟩]) (
 .ret)))))
theorem ok54 : chkFn Tryz.prog 54 ir54 3 [.t 6, .t 7] = true := by kernel_rfl

end Go.Proofs
end

/- Functions of the seat as data. MADE BY PROGRAM (print_ir.py). -/
section
set_option maxRecDepth 100000
namespace Go.Proofs
open Go.PW

/-- loop.example/g00779/laws.markText -/
def ir71 : PC :=
 .seq (
 .reg [
   ⟨some 2, .mov (.k (.val (.str ⟨#[]⟩))), none⟩]) (
 .seq (
 .seq (
 .reg [
   ⟨some 4, .mov (.t 0), none⟩,
   ⟨some 5, .bin .leq (.t 4) (.k (.val (.int .i64 0))), none⟩]) (
 .cond (.t 5) (
  .seq (
  .reg [
    ⟨some 2, .mov (.k (.val (.str ⟨#[109, 48]⟩))), none⟩]) (
  .ret)) (
  .skip))) (
 .seq (
 .reg [
   ⟨some 3, .mov (.k (.val (.str ⟨#[]⟩))), none⟩]) (
 .seq (
 .block 0 (
  .loop (.ghost (
   .seq (
   .seq (
   .reg [
     ⟨some 6, .mov (.t 0), none⟩,
     ⟨some 7, .bin .gtr (.t 6) (.k (.val (.int .i64 0))), none⟩]) (
   .cond (.t 7) (
    .skip) (
    .exit 0))) (
   .block 1 (
    .seq (
    .reg [
      ⟨some 8, .mov (.t 0), none⟩,
      ⟨some 9, .bin .rem (.t 8) (.k (.val (.int .i64 10))), none⟩,
      ⟨some 10, .bin .add (.k (.val (.int .i64 48))) (.t 9), none⟩,
      ⟨some 11, .conv .u8 (.t 10), none⟩,
      ⟨some 12, .lit 5 1 [.t 11], none⟩,
      ⟨some 13, .tostr (.t 12), none⟩,
      ⟨some 14, .mov (.t 3), none⟩,
      ⟨some 15, .bin .add (.t 13) (.t 14), none⟩,
      ⟨some 3, .mov (.t 15), none⟩]) (
    .reg [
      ⟨some 16, .mov (.t 0), none⟩,
      ⟨some 17, .bin .quo (.t 16) (.k (.val (.int .i64 10))), none⟩,
      ⟨some 0, .mov (.t 17), none⟩]))))))) (
 .seq (
 .reg [
   ⟨some 18, .mov (.t 3), none⟩,
   ⟨some 19, .bin .add (.k (.val (.str ⟨#[109]⟩))) (.t 18), none⟩,
   ⟨some 2, .mov (.t 19), none⟩]) (
 .ret)))))
theorem ok71 : chkFn Tryz.prog 71 ir71 1 [.t 2] = true := by kernel_rfl

def ir29_l6 : PC :=
 .seq (
 .seq (
 .reg [
   ⟨some 6, .mov (.t 5), none⟩,
   ⟨some 7, .mov (.t 0), none⟩,
   ⟨some 8, .len (.t 7), none⟩,
   ⟨some 9, .bin .lss (.t 6) (.t 8), none⟩]) (
 .cond (.t 9) (
  .skip) (
  .exit 0))) (
 .seq (
 .block 1 (
  .seq (
  .reg [
    ⟨some 12, .mov (.t 0), none⟩,
    ⟨some 13, .mov (.t 5), none⟩,
    ⟨some 14, .mov (.t 1), none⟩,
    ⟨some 15, .call 71 [.t 14], none⟩,
    ⟨some 16, .iaddr 6 (.t 12) (.t 13), none⟩,
    ⟨some 17, .faddr 0 (.t 16), none⟩,
    ⟨some 18, .faddr 0 (.t 17), none⟩,
    ⟨none, .store 1 (.t 18) (.t 15), none⟩]) (
  .seq (
  .reg [
    ⟨some 19, .mov (.t 1), none⟩,
    ⟨some 20, .bin .add (.t 19) (.k (.val (.int .i64 1))), none⟩,
    ⟨some 1, .mov (.t 20), none⟩]) (
  .seq (
  .reg [
    ⟨some 21, .mov (.t 0), none⟩,
    ⟨some 22, .mov (.t 5), none⟩,
    ⟨some 23, .mov (.t 1), none⟩,
    ⟨some 24, .iaddr 6 (.t 21) (.t 22), none⟩,
    ⟨some 25, .faddr 0 (.t 24), none⟩,
    ⟨some 26, .faddr 1 (.t 25), none⟩,
    ⟨none, .store 1 (.t 26) (.t 23), none⟩]) (
  .seq (
  .reg [
    ⟨some 27, .mov (.t 1), none⟩,
    ⟨some 28, .bin .add (.t 27) (.k (.val (.int .i64 1))), none⟩,
    ⟨some 1, .mov (.t 28), none⟩]) (
  .seq (
  .reg [
    ⟨some 29, .mov (.t 0), none⟩,
    ⟨some 30, .mov (.t 5), none⟩,
    ⟨some 31, .mov (.t 1), none⟩,
    ⟨some 32, .iaddr 6 (.t 29) (.t 30), none⟩,
    ⟨some 33, .faddr 0 (.t 32), none⟩,
    ⟨some 34, .faddr 2 (.t 33), none⟩,
    ⟨none, .store 1 (.t 34) (.t 31), none⟩]) (
  .seq (
  .reg [
    ⟨some 35, .mov (.t 1), none⟩,
    ⟨some 36, .bin .add (.t 35) (.k (.val (.int .i64 1))), none⟩,
    ⟨some 1, .mov (.t 36), none⟩]) (
  .seq (
  .reg [
    ⟨some 37, .mov (.t 0), none⟩,
    ⟨some 38, .mov (.t 5), none⟩,
    ⟨some 39, .mov (.t 1), none⟩,
    ⟨some 40, .iaddr 6 (.t 37) (.t 38), none⟩,
    ⟨some 41, .faddr 3 (.t 40), none⟩,
    ⟨none, .store 1 (.t 41) (.t 39), none⟩]) (
  .seq (
  .reg [
    ⟨some 42, .mov (.t 1), none⟩,
    ⟨some 43, .bin .add (.t 42) (.k (.val (.int .i64 1))), none⟩,
    ⟨some 1, .mov (.t 43), none⟩]) (
  .seq (
  .reg [
    ⟨some 44, .mov (.t 0), none⟩,
    ⟨some 45, .mov (.t 5), none⟩,
    ⟨some 46, .mov (.t 1), none⟩,
    ⟨some 47, .iaddr 6 (.t 44) (.t 45), none⟩,
    ⟨some 48, .faddr 4 (.t 47), none⟩,
    ⟨none, .store 1 (.t 48) (.t 46), none⟩]) (
  .seq (
  .reg [
    ⟨some 49, .mov (.t 1), none⟩,
    ⟨some 50, .bin .add (.t 49) (.k (.val (.int .i64 1))), none⟩,
    ⟨some 1, .mov (.t 50), none⟩]) (
  .seq (
  .reg [
    ⟨some 51, .mov (.t 0), none⟩,
    ⟨some 52, .mov (.t 5), none⟩,
    ⟨some 53, .mov (.t 1), none⟩,
    ⟨some 54, .bin .rem (.t 53) (.k (.val (.int .i64 3))), none⟩,
    ⟨some 55, .bin .eql (.t 54) (.k (.val (.int .i64 0))), none⟩,
    ⟨some 56, .iaddr 6 (.t 51) (.t 52), none⟩,
    ⟨some 57, .faddr 5 (.t 56), none⟩,
    ⟨none, .store 1 (.t 57) (.t 55), none⟩]) (
  .reg [
    ⟨some 58, .mov (.t 1), none⟩,
    ⟨some 59, .bin .add (.t 58) (.k (.val (.int .i64 1))), none⟩,
    ⟨some 1, .mov (.t 59), none⟩]))))))))))))) (
 .reg [
   ⟨some 10, .mov (.t 5), none⟩,
   ⟨some 11, .bin .add (.t 10) (.k (.val (.int .i64 1))), none⟩,
   ⟨some 5, .mov (.t 11), none⟩]))
/-- loop.example/g00779/laws.markPeerS -/
def ir29 : PC :=
 .seq (
 .reg [
   ⟨some 4, .mov (.k (.val (.int .i64 0))), none⟩]) (
 .seq (
 .seq (
 .reg [
   ⟨some 5, .mov (.k (.val (.int .i64 0))), none⟩]) (
 .block 0 (
  .loop (.ghost ir29_l6)))) (
 .seq (
 .reg [
   ⟨some 60, .mov (.t 1), none⟩,
   ⟨some 4, .mov (.t 60), none⟩]) (
 .ret)))
theorem ok29 : chkFn Tryz.prog 29 ir29 2 [.t 4] = true := by kernel_rfl

def ir30_l6 : PC :=
 .seq (
 .seq (
 .reg [
   ⟨some 6, .mov (.t 5), none⟩,
   ⟨some 7, .mov (.t 0), none⟩,
   ⟨some 8, .len (.t 7), none⟩,
   ⟨some 9, .bin .lss (.t 6) (.t 8), none⟩]) (
 .cond (.t 9) (
  .skip) (
  .exit 0))) (
 .seq (
 .block 1 (
  .seq (
  .seq (
  .draw [
    ⟨some 12, .mov (.t 0), none⟩,
    ⟨some 13, .mov (.t 5), none⟩,
    ⟨some 14, .iaddr 6 (.t 12) (.t 13), none⟩,
    ⟨some 15, .faddr 0 (.t 14), none⟩,
    ⟨some 16, .faddr 0 (.t 15), none⟩,
    ⟨some 17, .load false 1 (.t 16), none⟩,
    ⟨some 18, .mov (.t 1), none⟩,
    ⟨some 19, .call 71 [.t 18], none⟩,
    ⟨some 20, .bin .neq (.t 17) (.t 19), none⟩] []) (
  .cond (.t 20) (
   .seq (
   .reg [
     ⟨some 4, .mov (.k (.val (.int .i64 (-1)))), none⟩]) (
   .ret)) (
   .skip))) (
  .seq (
  .reg [
    ⟨some 21, .mov (.t 1), none⟩,
    ⟨some 22, .bin .add (.t 21) (.k (.val (.int .i64 1))), none⟩,
    ⟨some 1, .mov (.t 22), none⟩]) (
  .seq (
  .seq (
  .reg [
    ⟨some 23, .mov (.t 0), none⟩,
    ⟨some 24, .mov (.t 5), none⟩,
    ⟨some 25, .iaddr 6 (.t 23) (.t 24), none⟩,
    ⟨some 26, .faddr 0 (.t 25), none⟩,
    ⟨some 27, .faddr 1 (.t 26), none⟩,
    ⟨some 28, .load false 1 (.t 27), none⟩,
    ⟨some 29, .mov (.t 1), none⟩,
    ⟨some 30, .bin .neq (.t 28) (.t 29), none⟩]) (
  .cond (.t 30) (
   .seq (
   .reg [
     ⟨some 4, .mov (.k (.val (.int .i64 (-1)))), none⟩]) (
   .ret)) (
   .skip))) (
  .seq (
  .reg [
    ⟨some 31, .mov (.t 1), none⟩,
    ⟨some 32, .bin .add (.t 31) (.k (.val (.int .i64 1))), none⟩,
    ⟨some 1, .mov (.t 32), none⟩]) (
  .seq (
  .seq (
  .reg [
    ⟨some 33, .mov (.t 0), none⟩,
    ⟨some 34, .mov (.t 5), none⟩,
    ⟨some 35, .iaddr 6 (.t 33) (.t 34), none⟩,
    ⟨some 36, .faddr 0 (.t 35), none⟩,
    ⟨some 37, .faddr 2 (.t 36), none⟩,
    ⟨some 38, .load false 1 (.t 37), none⟩,
    ⟨some 39, .mov (.t 1), none⟩,
    ⟨some 40, .bin .neq (.t 38) (.t 39), none⟩]) (
  .cond (.t 40) (
   .seq (
   .reg [
     ⟨some 4, .mov (.k (.val (.int .i64 (-1)))), none⟩]) (
   .ret)) (
   .skip))) (
  .seq (
  .reg [
    ⟨some 41, .mov (.t 1), none⟩,
    ⟨some 42, .bin .add (.t 41) (.k (.val (.int .i64 1))), none⟩,
    ⟨some 1, .mov (.t 42), none⟩]) (
  .seq (
  .seq (
  .reg [
    ⟨some 43, .mov (.t 0), none⟩,
    ⟨some 44, .mov (.t 5), none⟩,
    ⟨some 45, .iaddr 6 (.t 43) (.t 44), none⟩,
    ⟨some 46, .faddr 3 (.t 45), none⟩,
    ⟨some 47, .load false 1 (.t 46), none⟩,
    ⟨some 48, .mov (.t 1), none⟩,
    ⟨some 49, .bin .neq (.t 47) (.t 48), none⟩]) (
  .cond (.t 49) (
   .seq (
   .reg [
     ⟨some 4, .mov (.k (.val (.int .i64 (-1)))), none⟩]) (
   .ret)) (
   .skip))) (
  .seq (
  .reg [
    ⟨some 50, .mov (.t 1), none⟩,
    ⟨some 51, .bin .add (.t 50) (.k (.val (.int .i64 1))), none⟩,
    ⟨some 1, .mov (.t 51), none⟩]) (
  .seq (
  .seq (
  .reg [
    ⟨some 52, .mov (.t 0), none⟩,
    ⟨some 53, .mov (.t 5), none⟩,
    ⟨some 54, .iaddr 6 (.t 52) (.t 53), none⟩,
    ⟨some 55, .faddr 4 (.t 54), none⟩,
    ⟨some 56, .load false 1 (.t 55), none⟩,
    ⟨some 57, .mov (.t 1), none⟩,
    ⟨some 58, .bin .neq (.t 56) (.t 57), none⟩]) (
  .cond (.t 58) (
   .seq (
   .reg [
     ⟨some 4, .mov (.k (.val (.int .i64 (-1)))), none⟩]) (
   .ret)) (
   .skip))) (
  .seq (
  .reg [
    ⟨some 59, .mov (.t 1), none⟩,
    ⟨some 60, .bin .add (.t 59) (.k (.val (.int .i64 1))), none⟩,
    ⟨some 1, .mov (.t 60), none⟩]) (
  .seq (
  .seq (
  .reg [
    ⟨some 61, .mov (.t 0), none⟩,
    ⟨some 62, .mov (.t 5), none⟩,
    ⟨some 63, .iaddr 6 (.t 61) (.t 62), none⟩,
    ⟨some 64, .faddr 5 (.t 63), none⟩,
    ⟨some 65, .load false 1 (.t 64), none⟩,
    ⟨some 66, .mov (.t 1), none⟩,
    ⟨some 67, .bin .rem (.t 66) (.k (.val (.int .i64 3))), none⟩,
    ⟨some 68, .bin .eql (.t 67) (.k (.val (.int .i64 0))), none⟩,
    ⟨some 69, .eqb true (.t 65) (.t 68), none⟩]) (
  .cond (.t 69) (
   .seq (
   .reg [
     ⟨some 4, .mov (.k (.val (.int .i64 (-1)))), none⟩]) (
   .ret)) (
   .skip))) (
  .reg [
    ⟨some 70, .mov (.t 1), none⟩,
    ⟨some 71, .bin .add (.t 70) (.k (.val (.int .i64 1))), none⟩,
    ⟨some 1, .mov (.t 71), none⟩]))))))))))))) (
 .reg [
   ⟨some 10, .mov (.t 5), none⟩,
   ⟨some 11, .bin .add (.t 10) (.k (.val (.int .i64 1))), none⟩,
   ⟨some 5, .mov (.t 11), none⟩]))
/-- loop.example/g00779/laws.heldPeerS -/
def ir30 : PC :=
 .seq (
 .reg [
   ⟨some 4, .mov (.k (.val (.int .i64 0))), none⟩]) (
 .seq (
 .seq (
 .reg [
   ⟨some 5, .mov (.k (.val (.int .i64 0))), none⟩]) (
 .block 0 (
  .loop (.ghost ir30_l6)))) (
 .seq (
 .reg [
   ⟨some 72, .mov (.t 1), none⟩,
   ⟨some 4, .mov (.t 72), none⟩]) (
 .ret)))
theorem ok30 : chkFn Tryz.prog 30 ir30 2 [.t 4] = true := by kernel_rfl

/-- loop.example/g00779/spec.l07Ask -/
def ir79 : PC :=
 .seq (
 .reg [
   ⟨some 4, .mov (.k (.val (.int .i64 0))), none⟩]) (
 .seq (
 .seq (
 .reg [
   ⟨some 5, .mov (.t 0), none⟩,
   ⟨some 6, .len (.t 5), none⟩,
   ⟨some 7, .bin .gtr (.t 6) (.k (.val (.int .i64 4096))), none⟩]) (
 .cond (.t 7) (
  .seq (
  .reg [
    ⟨some 4, .mov (.k (.val (.int .i64 2))), none⟩]) (
  .ret)) (
  .skip))) (
 .seq (
 .seq (
 .reg [
   ⟨some 8, .mov (.t 0), none⟩,
   ⟨some 9, .call 109 [.t 8], none⟩,
   ⟨some 10, .un .not (.t 9), none⟩]) (
 .cond (.t 10) (
  .seq (
  .reg [
    ⟨some 4, .mov (.k (.val (.int .i64 1))), none⟩]) (
  .ret)) (
  .skip))) (
 .seq (
 .seq (
 .reg [
   ⟨some 11, .mov (.t 1), none⟩,
   ⟨some 12, .mov (.t 0), none⟩,
   ⟨some 13, .len (.t 12), none⟩,
   ⟨some 14, .bin .sub (.t 13) (.k (.val (.int .i64 1))), none⟩,
   ⟨some 15, .call 86 [.t 11, .k (.val (.int .i64 0)), .t 14], none⟩,
   ⟨some 16, .un .not (.t 15), none⟩]) (
 .cond (.t 16) (
  .seq (
  .reg [
    ⟨some 4, .mov (.k (.val (.int .i64 5))), none⟩]) (
  .ret)) (
  .skip))) (
 .seq (
 .reg [
   ⟨some 4, .mov (.k (.val (.int .i64 0))), none⟩]) (
 .ret)))))
theorem ok79 : chkFn Tryz.prog 79 ir79 2 [.t 4] = true := by kernel_rfl

/-- loop.example/g00779/spec.l07Works -/
def ir80 : PC :=
 .seq (
 .reg [
   ⟨some 4, .mov (.k (.emp 6)), none⟩]) (
 .seq (
 .reg [
   ⟨some 6, .mov (.t 0), none⟩,
   ⟨some 7, .mov (.t 1), none⟩,
   ⟨some 8, .iaddr 6 (.t 6) (.t 7), none⟩,
   ⟨some 9, .load true 6 (.t 8), none⟩,
   ⟨some 5, .alloc [.val (.str ⟨#[]⟩), .val (.int .i64 0), .val (.int .i64 0), .val (.int .i64 0), .val (.int .i64 0), .val (.bool false)], none⟩,
   ⟨none, .store 6 (.t 5) (.t 9), none⟩]) (
 .seq (
 .reg [
   ⟨some 10, .faddr 3 (.t 5), none⟩,
   ⟨none, .store 1 (.t 10) (.k (.val (.int .i64 0))), none⟩]) (
 .seq (
 .reg [
   ⟨some 11, .faddr 4 (.t 5), none⟩,
   ⟨none, .store 1 (.t 11) (.k (.val (.int .i64 0))), none⟩]) (
 .seq (
 .reg [
   ⟨some 12, .mov (.t 0), none⟩,
   ⟨some 13, .mov (.t 1), none⟩,
   ⟨some 14, .load true 6 (.t 5), none⟩,
   ⟨some 15, .call 157 [.t 12, .t 13, .t 14], none⟩,
   ⟨some 4, .mov (.t 15), none⟩]) (
 .ret)))))
theorem ok80 : chkFn Tryz.prog 80 ir80 2 [.t 4] = true := by kernel_rfl

/-- loop.example/g00779/spec.l07Put -/
def ir157 : PC :=
 .seq (
 .reg [
   ⟨some 5, .box (.t 2), none⟩,
   ⟨some 6, .mov (.k (.emp 6)), none⟩]) (
 .seq (
 .reg [
   ⟨some 8, .lit 67 6 [], none⟩,
   ⟨some 9, .mov (.t 0), none⟩,
   ⟨some 10, .app 67 6 56 (.t 8) (.t 9), none⟩,
   ⟨some 7, .mov (.t 10), none⟩]) (
 .seq (
 .reg [
   ⟨some 11, .mov (.t 7), none⟩,
   ⟨some 12, .mov (.t 1), none⟩,
   ⟨some 13, .load true 6 (.t 5), none⟩,
   ⟨some 14, .iaddr 6 (.t 11) (.t 12), none⟩,
   ⟨none, .store 6 (.t 14) (.t 13), none⟩]) (
 .seq (
 .reg [
   ⟨some 15, .mov (.t 7), none⟩,
   ⟨some 6, .mov (.t 15), none⟩]) (
 .ret))))
theorem ok157 : chkFn Tryz.prog 157 ir157 3 [.t 6] = true := by kernel_rfl

/-- loop.example/g00779/spec.PeerWorks -/
def ir25 : PC :=
 .seq (
 .reg [
   ⟨some 4, .mov (.k (.emp 6)), none⟩,
   ⟨some 5, .mov (.k (.val (.int .i64 0))), none⟩]) (
 .seq (
 .seq (
 .reg [
   ⟨some 7, .mov (.t 0), none⟩,
   ⟨some 8, .len (.t 7), none⟩,
   ⟨some 9, .bin .gtr (.t 8) (.k (.val (.int .i64 4096))), none⟩]) (
 .cond (.t 9) (
  .seq (
  .reg [
    ⟨some 10, .lit 67 6 [], none⟩,
    ⟨some 4, .mov (.t 10), none⟩,
    ⟨some 5, .mov (.k (.val (.int .i64 2))), none⟩]) (
  .ret)) (
  .skip))) (
 .seq (
 .seq (
 .reg [
   ⟨some 11, .mov (.t 0), none⟩,
   ⟨some 12, .mov (.t 1), none⟩,
   ⟨some 13, .call 79 [.t 11, .t 12], none⟩,
   ⟨some 6, .mov (.t 13), none⟩]) (
 .seq (
 .reg [
   ⟨some 14, .mov (.t 6), none⟩,
   ⟨some 15, .bin .neq (.t 14) (.k (.val (.int .i64 0))), none⟩]) (
 .cond (.t 15) (
  .seq (
  .reg [
    ⟨some 16, .lit 67 6 [], none⟩,
    ⟨some 17, .mov (.t 6), none⟩,
    ⟨some 4, .mov (.t 16), none⟩,
    ⟨some 5, .mov (.t 17), none⟩]) (
  .ret)) (
  .skip)))) (
 .seq (
 .reg [
   ⟨some 18, .mov (.t 0), none⟩,
   ⟨some 19, .mov (.t 1), none⟩,
   ⟨some 20, .call 80 [.t 18, .t 19], none⟩,
   ⟨some 4, .mov (.t 20), none⟩,
   ⟨some 5, .mov (.k (.val (.int .i64 0))), none⟩]) (
 .ret))))
theorem ok25 : chkFn Tryz.prog 25 ir25 2 [.t 4, .t 5] = true := by kernel_rfl

/-- loop.example/g00779/impl.peerCode -/
def ir82 : PC :=
 .seq (
 .reg [
   ⟨some 4, .mov (.k (.val (.int .i64 0))), none⟩]) (
 .seq (
 .reg [
   ⟨some 5, .mov (.t 0), none⟩,
   ⟨some 6, .call 106 [.t 5], none⟩,
   ⟨some 7, .mov (.t 1), none⟩,
   ⟨some 8, .mov (.t 0), none⟩,
   ⟨some 9, .len (.t 8), none⟩,
   ⟨some 10, .bin .sub (.t 9) (.k (.val (.int .i64 1))), none⟩,
   ⟨some 11, .call 126 [.t 7, .k (.val (.int .i64 0)), .t 10], none⟩,
   ⟨some 12, .call 89 [.t 11, .k (.val (.int .i64 5))], none⟩,
   ⟨some 13, .lit 3 1 [.t 6, .t 12], none⟩,
   ⟨some 14, .call 88 [.t 13], none⟩,
   ⟨some 4, .mov (.t 14), none⟩]) (
 .ret))
theorem ok82 : chkFn Tryz.prog 82 ir82 2 [.t 4] = true := by kernel_rfl

/-- slices.Clone[[]loop.example/g00779/impl.Peer,loop.example/g00779/impl.Peer] -/
def ir83 : PC :=
 .seq (
 .reg [
   ⟨some 2, .mov (.k (.emp 6)), none⟩]) (
 .seq (
 .seq (
 .reg [
   ⟨some 3, .mov (.t 0), none⟩,
   ⟨some 4, .isnil false false (.t 3), none⟩]) (
 .cond (.t 4) (
  .seq (
  .reg [
    ⟨some 2, .mov (.k (.emp 6)), none⟩]) (
  .ret)) (
  .skip))) (
 .seq (
 .reg [
   ⟨some 5, .lit 67 6 [], none⟩,
   ⟨some 6, .mov (.t 0), none⟩,
   ⟨some 7, .app 67 6 56 (.t 5) (.t 6), none⟩,
   ⟨some 2, .mov (.t 7), none⟩]) (
 .ret)))
theorem ok83 : chkFn Tryz.prog 83 ir83 1 [.t 2] = true := by kernel_rfl

/-- loop.example/g00779/impl.PeerWorks -/
def ir27 : PC :=
 .seq (
 .reg [
   ⟨some 4, .mov (.k (.emp 6)), none⟩,
   ⟨some 5, .mov (.k (.val (.int .i64 0))), none⟩]) (
 .seq (
 .seq (
 .reg [
   ⟨some 8, .mov (.t 0), none⟩,
   ⟨some 9, .mov (.t 1), none⟩,
   ⟨some 10, .call 82 [.t 8, .t 9], none⟩,
   ⟨some 6, .mov (.t 10), none⟩]) (
 .seq (
 .reg [
   ⟨some 11, .mov (.t 6), none⟩,
   ⟨some 12, .bin .neq (.t 11) (.k (.val (.int .i64 0))), none⟩]) (
 .cond (.t 12) (
  .seq (
  .reg [
    ⟨some 13, .mov (.t 6), none⟩,
    ⟨some 4, .mov (.k (.emp 6)), none⟩,
    ⟨some 5, .mov (.t 13), none⟩]) (
  .ret)) (
  .skip)))) (
 .seq (
 .reg [
   ⟨some 14, .mov (.t 0), none⟩,
   ⟨some 15, .call 83 [.t 14], none⟩,
   ⟨some 7, .mov (.t 15), none⟩]) (
 .seq (
 .reg [
   ⟨some 16, .mov (.t 7), none⟩,
   ⟨some 17, .mov (.t 1), none⟩,
   ⟨some 18, .mov (.t 7), none⟩,
   ⟨some 19, .mov (.t 1), none⟩,
   ⟨some 20, .iaddr 6 (.t 16) (.t 17), none⟩,
   ⟨some 21, .faddr 3 (.t 20), none⟩,
   ⟨none, .store 1 (.t 21) (.k (.val (.int .i64 0))), none⟩,
   ⟨some 22, .iaddr 6 (.t 18) (.t 19), none⟩,
   ⟨some 23, .faddr 4 (.t 22), none⟩,
   ⟨none, .store 1 (.t 23) (.k (.val (.int .i64 0))), none⟩]) (
 .seq (
 .reg [
   ⟨some 24, .mov (.t 7), none⟩,
   ⟨some 4, .mov (.t 24), none⟩,
   ⟨some 5, .mov (.k (.val (.int .i64 0))), none⟩]) (
 .ret)))))
theorem ok27 : chkFn Tryz.prog 27 ir27 2 [.t 4, .t 5] = true := by kernel_rfl

/-- loop.example/g00779/laws.FnExactPeerWorks -/
def ir5 : PC :=
 .seq (
 .reg [
   ⟨some 4, .mov (.k (.val (.bool false))), none⟩]) (
 .seq (
 .reg [
   ⟨some 5, .mov (.k (.val (.int .i64 1048576))), none⟩]) (
 .seq (
 .reg [
   ⟨some 16, .mov (.t 0), none⟩,
   ⟨some 17, .mov (.t 5), none⟩,
   ⟨some 18, .call 24 [.t 16, .t 17], none⟩,
   ⟨some 5, .mov (.t 18), none⟩]) (
 .seq (
 .seq (
 .reg [
   ⟨some 19, .mov (.t 5), none⟩,
   ⟨some 20, .bin .lss (.t 19) (.k (.val (.int .i64 0))), none⟩]) (
 .cond (.t 20) (
  .seq (
  .reg [
    ⟨some 4, .mov (.k (.val (.bool true))), none⟩]) (
  .ret)) (
  .skip))) (
 .seq (
 .reg [
   ⟨some 22, .mov (.t 0), none⟩,
   ⟨some 23, .call 26 [.t 22], none⟩,
   ⟨some 24, .mov (.t 1), none⟩,
   ⟨some 25, .call 25 [.t 23, .t 24], none⟩,
   ⟨some 21, .mov (.t 25), none⟩,
   ⟨some 26, .ext 0 (.t 21), none⟩,
   ⟨some 27, .ext 1 (.t 21), none⟩,
   ⟨some 6, .mov (.t 26), none⟩,
   ⟨some 7, .mov (.t 27), none⟩]) (
 .seq (
 .reg [
   ⟨some 28, .mov (.t 0), none⟩,
   ⟨some 29, .call 26 [.t 28], none⟩,
   ⟨some 8, .mov (.t 29), none⟩]) (
 .seq (
 .reg [
   ⟨some 31, .mov (.t 8), none⟩,
   ⟨some 32, .mov (.t 1), none⟩,
   ⟨some 33, .call 27 [.t 31, .t 32], none⟩,
   ⟨some 30, .mov (.t 33), none⟩,
   ⟨some 34, .ext 0 (.t 30), none⟩,
   ⟨some 35, .ext 1 (.t 30), none⟩,
   ⟨some 9, .mov (.t 34), none⟩,
   ⟨some 10, .mov (.t 35), none⟩]) (
 .seq (
 .seq (
 .reg [
   ⟨some 36, .mov (.t 9), none⟩,
   ⟨some 37, .mov (.t 6), none⟩,
   ⟨some 38, .call 28 [.t 36, .t 37], none⟩,
   ⟨some 39, .un .not (.t 38), none⟩,
   ⟨some 40, .mov (.t 39), none⟩,
   ⟨some 41, .mov (.t 10), some (40, false)⟩,
   ⟨some 42, .mov (.t 7), some (40, false)⟩,
   ⟨some 43, .bin .neq (.t 41) (.t 42), some (40, false)⟩,
   ⟨some 44, .pick (.t 40) (.k (.val (.bool true))) (.t 43), none⟩]) (
 .cond (.t 44) (
  .seq (
  .reg [
    ⟨some 4, .mov (.k (.val (.bool false))), none⟩]) (
  .ret)) (
  .skip))) (
 .seq (
 .seq (
 .reg [
   ⟨some 45, .mov (.t 8), none⟩,
   ⟨some 46, .mov (.t 0), none⟩,
   ⟨some 47, .call 26 [.t 46], none⟩,
   ⟨some 48, .call 28 [.t 45, .t 47], none⟩,
   ⟨some 49, .un .not (.t 48), none⟩]) (
 .cond (.t 49) (
  .seq (
  .reg [
    ⟨some 4, .mov (.k (.val (.bool false))), none⟩]) (
  .ret)) (
  .skip))) (
 .seq (
 .reg [
   ⟨some 11, .mov (.k (.val (.int .i64 1))), none⟩]) (
 .seq (
 .reg [
   ⟨some 50, .mov (.t 8), none⟩,
   ⟨some 51, .mov (.t 11), none⟩,
   ⟨some 52, .callr 29 (.t 50) [.t 51], none⟩,
   ⟨some 11, .mov (.t 52), none⟩]) (
 .seq (
 .seq (
 .reg [
   ⟨some 53, .mov (.t 11), none⟩,
   ⟨some 54, .bin .lss (.t 53) (.k (.val (.int .i64 0))), none⟩,
   ⟨some 55, .mov (.t 54), none⟩,
   ⟨some 56, .mov (.t 9), some (55, false)⟩,
   ⟨some 57, .mov (.t 6), some (55, false)⟩,
   ⟨some 58, .call 28 [.t 56, .t 57], some (55, false)⟩,
   ⟨some 59, .un .not (.t 58), some (55, false)⟩,
   ⟨some 60, .pick (.t 55) (.k (.val (.bool true))) (.t 59), none⟩,
   ⟨some 61, .mov (.t 60), none⟩,
   ⟨some 62, .mov (.t 10), some (61, false)⟩,
   ⟨some 63, .mov (.t 7), some (61, false)⟩,
   ⟨some 64, .bin .neq (.t 62) (.t 63), some (61, false)⟩,
   ⟨some 65, .pick (.t 61) (.k (.val (.bool true))) (.t 64), none⟩]) (
 .cond (.t 65) (
  .seq (
  .reg [
    ⟨some 4, .mov (.k (.val (.bool false))), none⟩]) (
  .ret)) (
  .skip))) (
 .seq (
 .reg [
   ⟨some 12, .mov (.k (.val (.int .i64 1))), none⟩]) (
 .seq (
 .reg [
   ⟨some 66, .mov (.t 9), none⟩,
   ⟨some 67, .mov (.t 12), none⟩,
   ⟨some 68, .callr 29 (.t 66) [.t 67], none⟩,
   ⟨some 12, .mov (.t 68), none⟩]) (
 .seq (
 .reg [
   ⟨some 13, .mov (.k (.val (.int .i64 1))), none⟩]) (
 .seq (
 .reg [
   ⟨some 69, .mov (.t 9), none⟩,
   ⟨some 70, .mov (.t 13), none⟩,
   ⟨some 71, .call 30 [.t 69, .t 70], none⟩,
   ⟨some 13, .mov (.t 71), none⟩]) (
 .seq (
 .seq (
 .reg [
   ⟨some 72, .mov (.t 13), none⟩,
   ⟨some 73, .bin .lss (.t 72) (.k (.val (.int .i64 0))), none⟩]) (
 .cond (.t 73) (
  .seq (
  .reg [
    ⟨some 4, .mov (.k (.val (.bool false))), none⟩]) (
  .ret)) (
  .skip))) (
 .seq (
 .seq (
 .reg [
   ⟨some 74, .mov (.t 13), none⟩,
   ⟨some 75, .mov (.t 12), none⟩,
   ⟨some 76, .bin .neq (.t 74) (.t 75), none⟩]) (
 .cond (.t 76) (
  .seq (
  .reg [
    ⟨some 4, .mov (.k (.val (.bool false))), none⟩]) (
  .ret)) (
  .skip))) (
 .seq (
 .reg [
   ⟨some 78, .mov (.t 0), none⟩,
   ⟨some 79, .call 26 [.t 78], none⟩,
   ⟨some 80, .mov (.t 1), none⟩,
   ⟨some 81, .call 27 [.t 79, .t 80], none⟩,
   ⟨some 77, .mov (.t 81), none⟩,
   ⟨some 82, .ext 0 (.t 77), none⟩,
   ⟨some 83, .ext 1 (.t 77), none⟩,
   ⟨some 14, .mov (.t 82), none⟩,
   ⟨some 15, .mov (.t 83), none⟩]) (
 .seq (
 .seq (
 .reg [
   ⟨some 84, .mov (.t 14), none⟩,
   ⟨some 85, .mov (.t 6), none⟩,
   ⟨some 86, .call 28 [.t 84, .t 85], none⟩,
   ⟨some 87, .un .not (.t 86), none⟩,
   ⟨some 88, .mov (.t 87), none⟩,
   ⟨some 89, .mov (.t 15), some (88, false)⟩,
   ⟨some 90, .mov (.t 7), some (88, false)⟩,
   ⟨some 91, .bin .neq (.t 89) (.t 90), some (88, false)⟩,
   ⟨some 92, .pick (.t 88) (.k (.val (.bool true))) (.t 91), none⟩]) (
 .cond (.t 92) (
  .seq (
  .reg [
    ⟨some 4, .mov (.k (.val (.bool false))), none⟩]) (
  .ret)) (
  .skip))) (
 .seq (
 .reg [
   ⟨some 13, .mov (.k (.val (.int .i64 1))), none⟩]) (
 .seq (
 .reg [
   ⟨some 93, .mov (.t 9), none⟩,
   ⟨some 94, .mov (.t 13), none⟩,
   ⟨some 95, .call 30 [.t 93, .t 94], none⟩,
   ⟨some 13, .mov (.t 95), none⟩]) (
 .seq (
 .seq (
 .reg [
   ⟨some 96, .mov (.t 13), none⟩,
   ⟨some 97, .bin .lss (.t 96) (.k (.val (.int .i64 0))), none⟩]) (
 .cond (.t 97) (
  .seq (
  .reg [
    ⟨some 4, .mov (.k (.val (.bool false))), none⟩]) (
  .ret)) (
  .skip))) (
 .seq (
 .seq (
 .reg [
   ⟨some 98, .mov (.t 13), none⟩,
   ⟨some 99, .mov (.t 12), none⟩,
   ⟨some 100, .bin .neq (.t 98) (.t 99), none⟩]) (
 .cond (.t 100) (
  .seq (
  .reg [
    ⟨some 4, .mov (.k (.val (.bool false))), none⟩]) (
  .ret)) (
  .skip))) (
 .seq (
 .reg [
   ⟨some 4, .mov (.k (.val (.bool true))), none⟩]) (
 .ret)))))))))))))))))))))))))
theorem ok5 : chkFn Tryz.prog 5 ir5 2 [.t 4] = true := by kernel_rfl

end Go.Proofs
end
