/- Bb: merged out of IRe, IRf, IRg. -/
import Derived.Test.YtmilnihobbgopaaGreatDoorPWv
import Derived.Test.YtmilnihobbgopaaGreatDoorChecked
import Derived.KernelRfl

/- Functions of the seat as data. MADE BY PROGRAM (print_ir.py). -/
section
set_option maxRecDepth 100000
namespace Go.Proofs
open Go.PW

/-- loop.example/g00779/spec.l00Letter -/
def ir227 : PC :=
 .seq (
 .reg [
   ⟨some 2, .mov (.k (.val (.bool false))), none⟩]) (
 .seq (
 .reg [
   ⟨some 3, .mov (.t 0), none⟩,
   ⟨some 4, .bin .geq (.t 3) (.k (.val (.int .u8 97))), none⟩,
   ⟨some 5, .mov (.t 4), none⟩,
   ⟨some 6, .mov (.t 0), some (5, true)⟩,
   ⟨some 7, .bin .leq (.t 6) (.k (.val (.int .u8 122))), some (5, true)⟩,
   ⟨some 8, .pick (.t 5) (.t 7) (.k (.val (.bool false))), none⟩,
   ⟨some 9, .mov (.t 8), none⟩,
   ⟨some 10, .mov (.t 0), some (9, false)⟩,
   ⟨some 11, .bin .geq (.t 10) (.k (.val (.int .u8 65))), some (9, false)⟩,
   ⟨some 12, .mov (.t 11), some (9, false)⟩,
   ⟨some 13, .mov (.t 0), some (12, true)⟩,
   ⟨some 14, .bin .leq (.t 13) (.k (.val (.int .u8 90))), some (12, true)⟩,
   ⟨some 15, .pick (.t 12) (.t 14) (.k (.val (.bool false))), some (9, false)⟩,
   ⟨some 16, .pick (.t 9) (.k (.val (.bool true))) (.t 15), none⟩,
   ⟨some 17, .mov (.t 16), none⟩,
   ⟨some 18, .mov (.t 0), some (17, false)⟩,
   ⟨some 19, .bin .eql (.t 18) (.k (.val (.int .u8 95))), some (17, false)⟩,
   ⟨some 20, .pick (.t 17) (.k (.val (.bool true))) (.t 19), none⟩,
   ⟨some 2, .mov (.t 20), none⟩]) (
 .ret))
theorem ok227 : chkFn Tryz.prog 227 ir227 1 [.t 2] = true := by kernel_rfl

/-- loop.example/g00779/spec.l00Word -/
def ir185 : PC :=
 .seq (
 .reg [
   ⟨some 2, .mov (.k (.val (.bool false))), none⟩]) (
 .seq (
 .seq (
 .reg [
   ⟨some 4, .mov (.t 0), none⟩,
   ⟨some 5, .lens (.t 4), none⟩,
   ⟨some 6, .bin .lss (.t 5) (.k (.val (.int .i64 1))), none⟩,
   ⟨some 7, .mov (.t 6), none⟩,
   ⟨some 8, .mov (.t 0), some (7, false)⟩,
   ⟨some 9, .lens (.t 8), some (7, false)⟩,
   ⟨some 10, .bin .gtr (.t 9) (.k (.val (.int .i64 12))), some (7, false)⟩,
   ⟨some 11, .pick (.t 7) (.k (.val (.bool true))) (.t 10), none⟩,
   ⟨some 12, .mov (.t 11), none⟩,
   ⟨some 13, .mov (.t 0), some (12, false)⟩,
   ⟨some 14, .idx (.t 13) (.k (.val (.int .i64 0))), some (12, false)⟩,
   ⟨some 15, .call 227 [.t 14], some (12, false)⟩,
   ⟨some 16, .un .not (.t 15), some (12, false)⟩,
   ⟨some 17, .pick (.t 12) (.k (.val (.bool true))) (.t 16), none⟩]) (
 .cond (.t 17) (
  .seq (
  .reg [
    ⟨some 2, .mov (.k (.val (.bool false))), none⟩]) (
  .ret)) (
  .skip))) (
 .seq (
 .seq (
 .reg [
   ⟨some 3, .mov (.k (.val (.int .i64 1))), none⟩]) (
 .block 0 (
  .loop (.ghost (
   .seq (
   .seq (
   .reg [
     ⟨some 18, .mov (.t 3), none⟩,
     ⟨some 19, .mov (.t 0), none⟩,
     ⟨some 20, .lens (.t 19), none⟩,
     ⟨some 21, .bin .lss (.t 18) (.t 20), none⟩]) (
   .cond (.t 21) (
    .skip) (
    .exit 0))) (
   .seq (
   .block 1 (
    .seq (
    .reg [
      ⟨some 24, .mov (.t 0), none⟩,
      ⟨some 25, .mov (.t 3), none⟩,
      ⟨some 26, .idx (.t 24) (.t 25), none⟩,
      ⟨some 27, .call 227 [.t 26], none⟩,
      ⟨some 28, .un .not (.t 27), none⟩,
      ⟨some 29, .mov (.t 28), none⟩,
      ⟨some 30, .mov (.t 0), some (29, true)⟩,
      ⟨some 31, .mov (.t 3), some (29, true)⟩,
      ⟨some 32, .idx (.t 30) (.t 31), some (29, true)⟩,
      ⟨some 33, .call 228 [.t 32], some (29, true)⟩,
      ⟨some 34, .un .not (.t 33), some (29, true)⟩,
      ⟨some 35, .pick (.t 29) (.t 34) (.k (.val (.bool false))), none⟩]) (
    .cond (.t 35) (
     .seq (
     .reg [
       ⟨some 2, .mov (.k (.val (.bool false))), none⟩]) (
     .ret)) (
     .skip)))) (
   .reg [
     ⟨some 22, .mov (.t 3), none⟩,
     ⟨some 23, .bin .add (.t 22) (.k (.val (.int .i64 1))), none⟩,
     ⟨some 3, .mov (.t 23), none⟩]))))))) (
 .seq (
 .reg [
   ⟨some 2, .mov (.k (.val (.bool true))), none⟩]) (
 .ret))))
theorem ok185 : chkFn Tryz.prog 185 ir185 1 [.t 2] = true := by kernel_rfl

/-- loop.example/g00779/spec.l03Clean -/
def ir177 : PC :=
 .seq (
 .reg [
   ⟨some 2, .mov (.k (.val (.str ⟨#[]⟩))), none⟩,
   ⟨some 3, .mov (.k (.val (.bool false))), none⟩]) (
 .seq (
 .reg [
   ⟨some 7, .mov (.t 0), none⟩,
   ⟨some 8, .call 205 [.t 7], none⟩,
   ⟨some 6, .mov (.t 8), none⟩,
   ⟨some 9, .ext 0 (.t 6), none⟩,
   ⟨some 10, .ext 1 (.t 6), none⟩,
   ⟨some 4, .alloc [.val (.str ⟨#[]⟩), .val (.str ⟨#[]⟩), .val (.str ⟨#[]⟩), .val (.int .i64 0), .val (.str ⟨#[]⟩), .val (.str ⟨#[]⟩), .val (.str ⟨#[]⟩), .val (.bool false), .val (.bool false)], none⟩,
   ⟨none, .store 9 (.t 4) (.t 9), none⟩,
   ⟨some 5, .mov (.t 10), none⟩]) (
 .seq (
 .seq (
 .reg [
   ⟨some 11, .mov (.t 5), none⟩,
   ⟨some 12, .un .not (.t 11), none⟩,
   ⟨some 13, .mov (.t 12), none⟩,
   ⟨some 14, .faddr 0 (.t 4), some (13, false)⟩,
   ⟨some 15, .load false 1 (.t 14), some (13, false)⟩,
   ⟨some 16, .call 222 [.t 15], some (13, false)⟩,
   ⟨some 17, .un .not (.t 16), some (13, false)⟩,
   ⟨some 18, .pick (.t 13) (.k (.val (.bool true))) (.t 17), none⟩]) (
 .cond (.t 18) (
  .seq (
  .reg [
    ⟨some 2, .mov (.k (.val (.str ⟨#[]⟩))), none⟩,
    ⟨some 3, .mov (.k (.val (.bool false))), none⟩]) (
  .ret)) (
  .skip))) (
 .seq (
 .reg [
   ⟨some 19, .faddr 8 (.t 4), none⟩,
   ⟨none, .store 1 (.t 19) (.k (.val (.bool false))), none⟩]) (
 .seq (
 .reg [
   ⟨some 20, .faddr 6 (.t 4), none⟩,
   ⟨none, .store 1 (.t 20) (.k (.val (.str ⟨#[]⟩))), none⟩]) (
 .seq (
 .reg [
   ⟨some 21, .load true 9 (.t 4), none⟩,
   ⟨some 22, .call 223 [.t 21], none⟩,
   ⟨some 2, .mov (.t 22), none⟩,
   ⟨some 3, .mov (.k (.val (.bool true))), none⟩]) (
 .ret))))))
theorem ok177 : chkFn Tryz.prog 177 ir177 1 [.t 2, .t 3] = true := by kernel_rfl

/-- loop.example/g00779/spec.l04Name -/
def ir141 : PC :=
 .seq (
 .reg [
   ⟨some 2, .mov (.k (.val (.bool false))), none⟩]) (
 .seq (
 .seq (
 .reg [
   ⟨some 4, .mov (.t 0), none⟩,
   ⟨some 5, .lens (.t 4), none⟩,
   ⟨some 6, .call 86 [.t 5, .k (.val (.int .i64 1)), .k (.val (.int .i64 24))], none⟩,
   ⟨some 7, .un .not (.t 6), none⟩]) (
 .cond (.t 7) (
  .seq (
  .reg [
    ⟨some 2, .mov (.k (.val (.bool false))), none⟩]) (
  .ret)) (
  .skip))) (
 .seq (
 .seq (
 .reg [
   ⟨some 3, .mov (.k (.val (.int .i64 0))), none⟩]) (
 .block 0 (
  .loop (.ghost (
   .seq (
   .seq (
   .reg [
     ⟨some 8, .mov (.t 3), none⟩,
     ⟨some 9, .mov (.t 0), none⟩,
     ⟨some 10, .lens (.t 9), none⟩,
     ⟨some 11, .bin .lss (.t 8) (.t 10), none⟩]) (
   .cond (.t 11) (
    .skip) (
    .exit 0))) (
   .seq (
   .block 1 (
    .seq (
    .reg [
      ⟨some 14, .mov (.t 0), none⟩,
      ⟨some 15, .mov (.t 3), none⟩,
      ⟨some 16, .idx (.t 14) (.t 15), none⟩,
      ⟨some 17, .bin .lss (.t 16) (.k (.val (.int .u8 97))), none⟩,
      ⟨some 18, .mov (.t 17), none⟩,
      ⟨some 19, .mov (.t 0), some (18, false)⟩,
      ⟨some 20, .mov (.t 3), some (18, false)⟩,
      ⟨some 21, .idx (.t 19) (.t 20), some (18, false)⟩,
      ⟨some 22, .bin .gtr (.t 21) (.k (.val (.int .u8 122))), some (18, false)⟩,
      ⟨some 23, .pick (.t 18) (.k (.val (.bool true))) (.t 22), none⟩,
      ⟨some 24, .mov (.t 23), none⟩,
      ⟨some 25, .mov (.t 0), some (24, true)⟩,
      ⟨some 26, .mov (.t 3), some (24, true)⟩,
      ⟨some 27, .idx (.t 25) (.t 26), some (24, true)⟩,
      ⟨some 28, .bin .neq (.t 27) (.k (.val (.int .u8 45))), some (24, true)⟩,
      ⟨some 29, .mov (.t 28), some (24, true)⟩,
      ⟨some 30, .mov (.t 3), some (29, false)⟩,
      ⟨some 31, .bin .eql (.t 30) (.k (.val (.int .i64 0))), some (29, false)⟩,
      ⟨some 32, .pick (.t 29) (.k (.val (.bool true))) (.t 31), some (24, true)⟩,
      ⟨some 33, .pick (.t 24) (.t 32) (.k (.val (.bool false))), none⟩]) (
    .cond (.t 33) (
     .seq (
     .reg [
       ⟨some 2, .mov (.k (.val (.bool false))), none⟩]) (
     .ret)) (
     .skip)))) (
   .reg [
     ⟨some 12, .mov (.t 3), none⟩,
     ⟨some 13, .bin .add (.t 12) (.k (.val (.int .i64 1))), none⟩,
     ⟨some 3, .mov (.t 13), none⟩]))))))) (
 .seq (
 .reg [
   ⟨some 2, .mov (.k (.val (.bool true))), none⟩]) (
 .ret))))
theorem ok141 : chkFn Tryz.prog 141 ir141 1 [.t 2] = true := by kernel_rfl

/-- loop.example/g00779/spec.l04Blank -/
def ir214 : PC :=
 .seq (
 .reg [
   ⟨some 2, .mov (.k (.val (.bool false))), none⟩]) (
 .seq (
 .reg [
   ⟨some 3, .mov (.t 0), none⟩,
   ⟨some 4, .bin .eql (.t 3) (.k (.val (.int .u8 32))), none⟩,
   ⟨some 5, .mov (.t 4), none⟩,
   ⟨some 6, .mov (.t 0), some (5, false)⟩,
   ⟨some 7, .bin .eql (.t 6) (.k (.val (.int .u8 9))), some (5, false)⟩,
   ⟨some 8, .pick (.t 5) (.k (.val (.bool true))) (.t 7), none⟩,
   ⟨some 2, .mov (.t 8), none⟩]) (
 .ret))
theorem ok214 : chkFn Tryz.prog 214 ir214 1 [.t 2] = true := by kernel_rfl

/-- loop.example/g00779/spec.l04Word -/
def ir162 : PC :=
 .seq (
 .reg [
   ⟨some 2, .mov (.k (.val (.bool false))), none⟩]) (
 .seq (
 .seq (
 .reg [
   ⟨some 3, .mov (.k (.val (.int .i64 0))), none⟩]) (
 .block 0 (
  .loop (.ghost (
   .seq (
   .seq (
   .reg [
     ⟨some 4, .mov (.t 3), none⟩,
     ⟨some 5, .mov (.t 0), none⟩,
     ⟨some 6, .lens (.t 5), none⟩,
     ⟨some 7, .bin .lss (.t 4) (.t 6), none⟩]) (
   .cond (.t 7) (
    .skip) (
    .exit 0))) (
   .seq (
   .block 1 (
    .seq (
    .reg [
      ⟨some 10, .mov (.t 0), none⟩,
      ⟨some 11, .mov (.t 3), none⟩,
      ⟨some 12, .idx (.t 10) (.t 11), none⟩,
      ⟨some 13, .call 214 [.t 12], none⟩,
      ⟨some 14, .mov (.t 13), none⟩,
      ⟨some 15, .mov (.t 0), some (14, false)⟩,
      ⟨some 16, .mov (.t 3), some (14, false)⟩,
      ⟨some 17, .idx (.t 15) (.t 16), some (14, false)⟩,
      ⟨some 18, .bin .eql (.t 17) (.k (.val (.int .u8 59))), some (14, false)⟩,
      ⟨some 19, .pick (.t 14) (.k (.val (.bool true))) (.t 18), none⟩]) (
    .cond (.t 19) (
     .seq (
     .reg [
       ⟨some 2, .mov (.k (.val (.bool false))), none⟩]) (
     .ret)) (
     .skip)))) (
   .reg [
     ⟨some 8, .mov (.t 3), none⟩,
     ⟨some 9, .bin .add (.t 8) (.k (.val (.int .i64 1))), none⟩,
     ⟨some 3, .mov (.t 9), none⟩]))))))) (
 .seq (
 .reg [
   ⟨some 20, .mov (.t 0), none⟩,
   ⟨some 21, .lens (.t 20), none⟩,
   ⟨some 22, .bin .gtr (.t 21) (.k (.val (.int .i64 0))), none⟩,
   ⟨some 2, .mov (.t 22), none⟩]) (
 .ret)))
theorem ok162 : chkFn Tryz.prog 162 ir162 1 [.t 2] = true := by kernel_rfl

/-- loop.example/g00779/spec.l04At -/
def ir161 : PC :=
 .seq (
 .reg [
   ⟨some 4, .mov (.k (.val (.int .i64 0))), none⟩]) (
 .seq (
 .seq (
 .reg [
   ⟨some 5, .mov (.k (.val (.int .i64 0))), none⟩]) (
 .block 0 (
  .loop (.ghost (
   .seq (
   .seq (
   .reg [
     ⟨some 6, .mov (.t 5), none⟩,
     ⟨some 7, .mov (.t 0), none⟩,
     ⟨some 8, .len (.t 7), none⟩,
     ⟨some 9, .bin .lss (.t 6) (.t 8), none⟩]) (
   .cond (.t 9) (
    .skip) (
    .exit 0))) (
   .seq (
   .block 1 (
    .seq (
    .reg [
      ⟨some 12, .mov (.t 0), none⟩,
      ⟨some 13, .mov (.t 5), none⟩,
      ⟨some 14, .iaddr 2 (.t 12) (.t 13), none⟩,
      ⟨some 15, .faddr 0 (.t 14), none⟩,
      ⟨some 16, .load false 1 (.t 15), none⟩,
      ⟨some 17, .mov (.t 1), none⟩,
      ⟨some 18, .bin .eql (.t 16) (.t 17), none⟩]) (
    .cond (.t 18) (
     .seq (
     .reg [
       ⟨some 19, .mov (.t 5), none⟩,
       ⟨some 4, .mov (.t 19), none⟩]) (
     .ret)) (
     .skip)))) (
   .reg [
     ⟨some 10, .mov (.t 5), none⟩,
     ⟨some 11, .bin .add (.t 10) (.k (.val (.int .i64 1))), none⟩,
     ⟨some 5, .mov (.t 11), none⟩]))))))) (
 .seq (
 .reg [
   ⟨some 4, .mov (.k (.val (.int .i64 (-1)))), none⟩]) (
 .ret)))
theorem ok161 : chkFn Tryz.prog 161 ir161 2 [.t 4] = true := by kernel_rfl

/-- loop.example/g00779/spec.l01Has -/
def ir203 : PC :=
 .seq (
 .reg [
   ⟨some 4, .mov (.k (.val (.bool false))), none⟩]) (
 .seq (
 .seq (
 .reg [
   ⟨some 5, .mov (.k (.val (.int .i64 0))), none⟩]) (
 .block 0 (
  .loop (.ghost (
   .seq (
   .seq (
   .reg [
     ⟨some 6, .mov (.t 5), none⟩,
     ⟨some 7, .mov (.t 0), none⟩,
     ⟨some 8, .len (.t 7), none⟩,
     ⟨some 9, .bin .lss (.t 6) (.t 8), none⟩]) (
   .cond (.t 9) (
    .skip) (
    .exit 0))) (
   .seq (
   .block 1 (
    .seq (
    .reg [
      ⟨some 12, .mov (.t 0), none⟩,
      ⟨some 13, .mov (.t 5), none⟩,
      ⟨some 14, .iaddr 1 (.t 12) (.t 13), none⟩,
      ⟨some 15, .load false 1 (.t 14), none⟩,
      ⟨some 16, .mov (.t 1), none⟩,
      ⟨some 17, .bin .eql (.t 15) (.t 16), none⟩]) (
    .cond (.t 17) (
     .seq (
     .reg [
       ⟨some 4, .mov (.k (.val (.bool true))), none⟩]) (
     .ret)) (
     .skip)))) (
   .reg [
     ⟨some 10, .mov (.t 5), none⟩,
     ⟨some 11, .bin .add (.t 10) (.k (.val (.int .i64 1))), none⟩,
     ⟨some 5, .mov (.t 11), none⟩]))))))) (
 .seq (
 .reg [
   ⟨some 4, .mov (.k (.val (.bool false))), none⟩]) (
 .ret)))
theorem ok203 : chkFn Tryz.prog 203 ir203 2 [.t 4] = true := by kernel_rfl

/-- loop.example/g00779/spec.l00SameTexts -/
def ir164 : PC :=
 .seq (
 .reg [
   ⟨some 4, .mov (.k (.val (.bool false))), none⟩]) (
 .seq (
 .seq (
 .reg [
   ⟨some 6, .mov (.t 0), none⟩,
   ⟨some 7, .len (.t 6), none⟩,
   ⟨some 8, .mov (.t 1), none⟩,
   ⟨some 9, .len (.t 8), none⟩,
   ⟨some 10, .bin .neq (.t 7) (.t 9), none⟩]) (
 .cond (.t 10) (
  .seq (
  .reg [
    ⟨some 4, .mov (.k (.val (.bool false))), none⟩]) (
  .ret)) (
  .skip))) (
 .seq (
 .seq (
 .reg [
   ⟨some 5, .mov (.k (.val (.int .i64 0))), none⟩]) (
 .block 0 (
  .loop (.ghost (
   .seq (
   .seq (
   .reg [
     ⟨some 11, .mov (.t 5), none⟩,
     ⟨some 12, .mov (.t 0), none⟩,
     ⟨some 13, .len (.t 12), none⟩,
     ⟨some 14, .bin .lss (.t 11) (.t 13), none⟩]) (
   .cond (.t 14) (
    .skip) (
    .exit 0))) (
   .seq (
   .block 1 (
    .seq (
    .draw [
      ⟨some 17, .mov (.t 0), none⟩,
      ⟨some 18, .mov (.t 5), none⟩,
      ⟨some 19, .iaddr 1 (.t 17) (.t 18), none⟩,
      ⟨some 20, .load false 1 (.t 19), none⟩,
      ⟨some 21, .mov (.t 1), none⟩,
      ⟨some 22, .mov (.t 5), none⟩,
      ⟨some 23, .iaddr 1 (.t 21) (.t 22), none⟩,
      ⟨some 24, .load false 1 (.t 23), none⟩] [
      ⟨some 25, .bin .neq (.t 20) (.t 24), none⟩]) (
    .cond (.t 25) (
     .seq (
     .reg [
       ⟨some 4, .mov (.k (.val (.bool false))), none⟩]) (
     .ret)) (
     .skip)))) (
   .reg [
     ⟨some 15, .mov (.t 5), none⟩,
     ⟨some 16, .bin .add (.t 15) (.k (.val (.int .i64 1))), none⟩,
     ⟨some 5, .mov (.t 16), none⟩]))))))) (
 .seq (
 .reg [
   ⟨some 4, .mov (.k (.val (.bool true))), none⟩]) (
 .ret))))
theorem ok164 : chkFn Tryz.prog 164 ir164 2 [.t 4] = true := by kernel_rfl

def ir163_from4 : PC :=
 .seq (
 .reg [
   ⟨some 89, .load true 3 (.t 3), none⟩,
   ⟨none, .store 3 (.t 2) (.t 89), none⟩]) (
 .ret)
def ir163_from3 : PC :=
 .seq (
 .seq (
 .reg [
   ⟨some 43, .mov (.t 0), none⟩,
   ⟨some 44, .call 161 [.t 43, .k (.val (.str ⟨#[114, 101, 112, 111, 114, 116, 45, 117, 114, 105]⟩))], none⟩,
   ⟨some 5, .mov (.t 44), none⟩]) (
 .seq (
 .reg [
   ⟨some 45, .mov (.t 5), none⟩,
   ⟨some 46, .bin .geq (.t 45) (.k (.val (.int .i64 0))), none⟩]) (
 .cond (.t 46) (
  .seq (
  .reg [
    ⟨some 6, .mov (.k (.val (.int .i64 0))), none⟩]) (
  .block 0 (
   .loop (.ghost (
    .seq (
    .seq (
    .reg [
      ⟨some 47, .mov (.t 6), none⟩,
      ⟨some 48, .mov (.t 0), none⟩,
      ⟨some 49, .mov (.t 5), none⟩,
      ⟨some 50, .iaddr 2 (.t 48) (.t 49), none⟩,
      ⟨some 51, .faddr 1 (.t 50), none⟩,
      ⟨some 52, .load false 1 (.t 51), none⟩,
      ⟨some 53, .len (.t 52), none⟩,
      ⟨some 54, .bin .lss (.t 47) (.t 53), none⟩]) (
    .cond (.t 54) (
     .skip) (
     .exit 0))) (
    .seq (
    .block 1 (
     .seq (
     .reg [
       ⟨some 58, .mov (.t 0), none⟩,
       ⟨some 59, .mov (.t 5), none⟩,
       ⟨some 60, .iaddr 2 (.t 58) (.t 59), none⟩,
       ⟨some 61, .faddr 1 (.t 60), none⟩,
       ⟨some 62, .load false 1 (.t 61), none⟩,
       ⟨some 63, .mov (.t 6), none⟩,
       ⟨some 64, .iaddr 1 (.t 62) (.t 63), none⟩,
       ⟨some 65, .load false 1 (.t 64), none⟩,
       ⟨some 66, .call 177 [.t 65], none⟩,
       ⟨some 57, .mov (.t 66), none⟩,
       ⟨some 67, .ext 0 (.t 57), none⟩,
       ⟨some 68, .ext 1 (.t 57), none⟩,
       ⟨some 7, .mov (.t 67), none⟩,
       ⟨some 8, .mov (.t 68), none⟩]) (
     .seq (
     .reg [
       ⟨some 69, .mov (.t 8), none⟩,
       ⟨some 70, .mov (.t 69), none⟩,
       ⟨some 71, .faddr 1 (.t 3), some (70, true)⟩,
       ⟨some 72, .load false 1 (.t 71), some (70, true)⟩,
       ⟨some 73, .mov (.t 7), some (70, true)⟩,
       ⟨some 74, .call 203 [.t 72, .t 73], some (70, true)⟩,
       ⟨some 75, .un .not (.t 74), some (70, true)⟩,
       ⟨some 76, .pick (.t 70) (.t 75) (.k (.val (.bool false))), none⟩,
       ⟨some 77, .mov (.t 76), none⟩,
       ⟨some 78, .faddr 1 (.t 3), some (77, true)⟩,
       ⟨some 79, .load false 1 (.t 78), some (77, true)⟩,
       ⟨some 80, .len (.t 79), some (77, true)⟩,
       ⟨some 81, .bin .lss (.t 80) (.k (.val (.int .i64 4))), some (77, true)⟩,
       ⟨some 82, .pick (.t 77) (.t 81) (.k (.val (.bool false))), none⟩]) (
     .cond (.t 82) (
      .reg [
        ⟨some 83, .faddr 1 (.t 3), none⟩,
        ⟨some 84, .load false 1 (.t 83), none⟩,
        ⟨some 85, .mov (.t 7), none⟩,
        ⟨some 86, .lit 9 1 [.t 85], none⟩,
        ⟨some 87, .app 9 1 16 (.t 84) (.t 86), none⟩,
        ⟨some 88, .faddr 1 (.t 3), none⟩,
        ⟨none, .store 1 (.t 88) (.t 87), none⟩]) (
      .skip))))) (
    .reg [
      ⟨some 55, .mov (.t 6), none⟩,
      ⟨some 56, .bin .add (.t 55) (.k (.val (.int .i64 1))), none⟩,
      ⟨some 6, .mov (.t 56), none⟩]))))))) (
  .skip)))) (
 ir163_from4)
/-- loop.example/g00779/spec.l04Make -/
def ir163 : PC :=
 .seq (
 .reg [
   ⟨some 2, .alloc [.val (.str ⟨#[]⟩), .emp 1, .emp 2], none⟩]) (
 .seq (
 .reg [
   ⟨some 9, .lit 9 1 [], none⟩,
   ⟨some 10, .mov (.t 0), none⟩,
   ⟨some 11, .build [.val (.str ⟨#[]⟩), .emp 1, .emp 2] [(1, 1, .t 9), (2, 1, .t 10)], none⟩,
   ⟨some 3, .alloc [.val (.str ⟨#[]⟩), .emp 1, .emp 2], none⟩,
   ⟨none, .store 3 (.t 3) (.t 11), none⟩]) (
 .seq (
 .seq (
 .reg [
   ⟨some 12, .mov (.t 0), none⟩,
   ⟨some 13, .call 161 [.t 12, .k (.val (.str ⟨#[114, 101, 112, 111, 114, 116, 45, 116, 111]⟩))], none⟩,
   ⟨some 4, .mov (.t 13), none⟩]) (
 .seq (
 .reg [
   ⟨some 14, .mov (.t 4), none⟩,
   ⟨some 15, .bin .geq (.t 14) (.k (.val (.int .i64 0))), none⟩,
   ⟨some 16, .mov (.t 15), none⟩,
   ⟨some 17, .mov (.t 0), some (16, true)⟩,
   ⟨some 18, .mov (.t 4), some (16, true)⟩,
   ⟨some 19, .iaddr 2 (.t 17) (.t 18), some (16, true)⟩,
   ⟨some 20, .faddr 1 (.t 19), some (16, true)⟩,
   ⟨some 21, .load false 1 (.t 20), some (16, true)⟩,
   ⟨some 22, .len (.t 21), some (16, true)⟩,
   ⟨some 23, .bin .gtr (.t 22) (.k (.val (.int .i64 0))), some (16, true)⟩,
   ⟨some 24, .pick (.t 16) (.t 23) (.k (.val (.bool false))), none⟩,
   ⟨some 25, .mov (.t 24), none⟩,
   ⟨some 26, .mov (.t 0), some (25, true)⟩,
   ⟨some 27, .mov (.t 4), some (25, true)⟩,
   ⟨some 28, .iaddr 2 (.t 26) (.t 27), some (25, true)⟩,
   ⟨some 29, .faddr 1 (.t 28), some (25, true)⟩,
   ⟨some 30, .load false 1 (.t 29), some (25, true)⟩,
   ⟨some 31, .iaddr 1 (.t 30) (.k (.val (.int .i64 0))), some (25, true)⟩,
   ⟨some 32, .load false 1 (.t 31), some (25, true)⟩,
   ⟨some 33, .call 185 [.t 32], some (25, true)⟩,
   ⟨some 34, .pick (.t 25) (.t 33) (.k (.val (.bool false))), none⟩]) (
 .cond (.t 34) (
  .reg [
    ⟨some 35, .mov (.t 0), none⟩,
    ⟨some 36, .mov (.t 4), none⟩,
    ⟨some 37, .iaddr 2 (.t 35) (.t 36), none⟩,
    ⟨some 38, .faddr 1 (.t 37), none⟩,
    ⟨some 39, .load false 1 (.t 38), none⟩,
    ⟨some 40, .iaddr 1 (.t 39) (.k (.val (.int .i64 0))), none⟩,
    ⟨some 41, .load false 1 (.t 40), none⟩,
    ⟨some 42, .faddr 0 (.t 3), none⟩,
    ⟨none, .store 1 (.t 42) (.t 41), none⟩]) (
  .skip)))) (
 ir163_from3)))
theorem ok163 : chkFn Tryz.prog 163 ir163 1 [.c 2 true 3] = true := by kernel_rfl

def ir93_l42 : PC :=
 .seq (
 .seq (
 .reg [
   ⟨some 42, .mov (.t 5), none⟩,
   ⟨some 43, .faddr 1 (.t 4), none⟩,
   ⟨some 44, .load false 1 (.t 43), none⟩,
   ⟨some 45, .len (.t 44), none⟩,
   ⟨some 46, .bin .lss (.t 42) (.t 45), none⟩]) (
 .cond (.t 46) (
  .skip) (
  .exit 2))) (
 .seq (
 .block 3 (
  .seq (
  .reg [
    ⟨some 49, .faddr 1 (.t 4), none⟩,
    ⟨some 50, .load false 1 (.t 49), none⟩,
    ⟨some 51, .mov (.t 5), none⟩,
    ⟨some 52, .iaddr 1 (.t 50) (.t 51), none⟩,
    ⟨some 53, .load false 1 (.t 52), none⟩,
    ⟨some 54, .call 162 [.t 53], none⟩,
    ⟨some 55, .un .not (.t 54), none⟩]) (
  .cond (.t 55) (
   .seq (
   .reg [
     ⟨some 2, .mov (.k (.val (.bool false))), none⟩]) (
   .ret)) (
   .skip)))) (
 .reg [
   ⟨some 47, .mov (.t 5), none⟩,
   ⟨some 48, .bin .add (.t 47) (.k (.val (.int .i64 1))), none⟩,
   ⟨some 5, .mov (.t 48), none⟩]))
def ir93_s42 : PC :=
 .block 2 (
  .loop (.ghost ir93_l42))
def ir93_l11 : PC :=
 .seq (
 .seq (
 .reg [
   ⟨some 11, .mov (.t 3), none⟩,
   ⟨some 12, .faddr 2 (.t 1), none⟩,
   ⟨some 13, .load false 1 (.t 12), none⟩,
   ⟨some 14, .len (.t 13), none⟩,
   ⟨some 15, .bin .lss (.t 11) (.t 14), none⟩]) (
 .cond (.t 15) (
  .skip) (
  .exit 0))) (
 .seq (
 .block 1 (
  .seq (
  .reg [
    ⟨some 18, .faddr 2 (.t 1), none⟩,
    ⟨some 19, .load false 1 (.t 18), none⟩,
    ⟨some 20, .mov (.t 3), none⟩,
    ⟨some 21, .iaddr 2 (.t 19) (.t 20), none⟩,
    ⟨some 22, .load true 2 (.t 21), none⟩,
    ⟨some 4, .alloc [.val (.str ⟨#[]⟩), .emp 1], none⟩,
    ⟨none, .store 2 (.t 4) (.t 22), none⟩]) (
  .seq (
  .seq (
  .reg [
    ⟨some 23, .faddr 0 (.t 4), none⟩,
    ⟨some 24, .load false 1 (.t 23), none⟩,
    ⟨some 25, .call 141 [.t 24], none⟩,
    ⟨some 26, .un .not (.t 25), none⟩,
    ⟨some 27, .mov (.t 26), none⟩,
    ⟨some 28, .faddr 2 (.t 1), some (27, false)⟩,
    ⟨some 29, .load false 1 (.t 28), some (27, false)⟩,
    ⟨some 30, .faddr 0 (.t 4), some (27, false)⟩,
    ⟨some 31, .load false 1 (.t 30), some (27, false)⟩,
    ⟨some 32, .call 161 [.t 29, .t 31], some (27, false)⟩,
    ⟨some 33, .mov (.t 3), some (27, false)⟩,
    ⟨some 34, .bin .neq (.t 32) (.t 33), some (27, false)⟩,
    ⟨some 35, .pick (.t 27) (.k (.val (.bool true))) (.t 34), none⟩,
    ⟨some 36, .mov (.t 35), none⟩,
    ⟨some 37, .faddr 1 (.t 4), some (36, false)⟩,
    ⟨some 38, .load false 1 (.t 37), some (36, false)⟩,
    ⟨some 39, .len (.t 38), some (36, false)⟩,
    ⟨some 40, .bin .gtr (.t 39) (.k (.val (.int .i64 8))), some (36, false)⟩,
    ⟨some 41, .pick (.t 36) (.k (.val (.bool true))) (.t 40), none⟩]) (
  .cond (.t 41) (
   .seq (
   .reg [
     ⟨some 2, .mov (.k (.val (.bool false))), none⟩]) (
   .ret)) (
   .skip))) (
  .seq (
  .reg [
    ⟨some 5, .mov (.k (.val (.int .i64 0))), none⟩]) (
  ir93_s42))))) (
 .reg [
   ⟨some 16, .mov (.t 3), none⟩,
   ⟨some 17, .bin .add (.t 16) (.k (.val (.int .i64 1))), none⟩,
   ⟨some 3, .mov (.t 17), none⟩]))
def ir93_from3 : PC :=
 .seq (
 .reg [
   ⟨some 56, .faddr 2 (.t 1), none⟩,
   ⟨some 57, .load false 1 (.t 56), none⟩,
   ⟨some 58, .call 163 [.t 57], none⟩,
   ⟨some 6, .alloc [.val (.str ⟨#[]⟩), .emp 1, .emp 2], none⟩,
   ⟨none, .store 3 (.t 6) (.t 58), none⟩]) (
 .seq (
 .reg [
   ⟨some 59, .faddr 0 (.t 1), none⟩,
   ⟨some 60, .load false 1 (.t 59), none⟩,
   ⟨some 61, .faddr 0 (.t 6), none⟩,
   ⟨some 62, .load false 1 (.t 61), none⟩,
   ⟨some 63, .bin .eql (.t 60) (.t 62), none⟩,
   ⟨some 64, .mov (.t 63), none⟩,
   ⟨some 65, .faddr 1 (.t 1), some (64, true)⟩,
   ⟨some 66, .load false 1 (.t 65), some (64, true)⟩,
   ⟨some 67, .faddr 1 (.t 6), some (64, true)⟩,
   ⟨some 68, .load false 1 (.t 67), some (64, true)⟩,
   ⟨some 69, .call 164 [.t 66, .t 68], some (64, true)⟩,
   ⟨some 70, .pick (.t 64) (.t 69) (.k (.val (.bool false))), none⟩,
   ⟨some 2, .mov (.t 70), none⟩]) (
 .ret))
/-- loop.example/g00779/spec.l04OK -/
def ir93 : PC :=
 .seq (
 .reg [
   ⟨some 1, .box (.t 0), none⟩,
   ⟨some 2, .mov (.k (.val (.bool false))), none⟩]) (
 .seq (
 .seq (
 .reg [
   ⟨some 7, .faddr 2 (.t 1), none⟩,
   ⟨some 8, .load false 1 (.t 7), none⟩,
   ⟨some 9, .len (.t 8), none⟩,
   ⟨some 10, .bin .gtr (.t 9) (.k (.val (.int .i64 8))), none⟩]) (
 .cond (.t 10) (
  .seq (
  .reg [
    ⟨some 2, .mov (.k (.val (.bool false))), none⟩]) (
  .ret)) (
  .skip))) (
 .seq (
 .seq (
 .reg [
   ⟨some 3, .mov (.k (.val (.int .i64 0))), none⟩]) (
 .block 0 (
  .loop (.ghost ir93_l11)))) (
 ir93_from3)))
theorem ok93 : chkFn Tryz.prog 93 ir93 1 [.t 2] = true := by kernel_rfl

/-- loop.example/g00779/spec.PolicyOK -/
def ir36 : PC :=
 .seq (
 .reg [
   ⟨some 1, .box (.t 0), none⟩,
   ⟨some 2, .mov (.k (.val (.bool false))), none⟩]) (
 .seq (
 .reg [
   ⟨some 3, .load true 3 (.t 1), none⟩,
   ⟨some 4, .call 93 [.t 3], none⟩,
   ⟨some 2, .mov (.t 4), none⟩]) (
 .ret))
theorem ok36 : chkFn Tryz.prog 36 ir36 1 [.t 2] = true := by kernel_rfl

/-- loop.example/g00779/spec.l04For -/
def ir117 : PC :=
 .seq (
 .reg [
   ⟨some 1, .box (.t 0), none⟩,
   ⟨some 2, .mov (.k (.val (.str ⟨#[]⟩))), none⟩,
   ⟨some 3, .mov (.k (.val (.int .i64 0))), none⟩]) (
 .seq (
 .seq (
 .reg [
   ⟨some 4, .faddr 0 (.t 1), none⟩,
   ⟨some 5, .load false 1 (.t 4), none⟩,
   ⟨some 6, .bin .neq (.t 5) (.k (.val (.str ⟨#[]⟩))), none⟩]) (
 .cond (.t 6) (
  .seq (
  .reg [
    ⟨some 7, .faddr 0 (.t 1), none⟩,
    ⟨some 8, .load false 1 (.t 7), none⟩,
    ⟨some 2, .mov (.t 8), none⟩,
    ⟨some 3, .mov (.k (.val (.int .i64 0))), none⟩]) (
  .ret)) (
  .skip))) (
 .seq (
 .seq (
 .reg [
   ⟨some 9, .faddr 1 (.t 1), none⟩,
   ⟨some 10, .load false 1 (.t 9), none⟩,
   ⟨some 11, .len (.t 10), none⟩,
   ⟨some 12, .bin .eql (.t 11) (.k (.val (.int .i64 0))), none⟩]) (
 .cond (.t 12) (
  .seq (
  .reg [
    ⟨some 2, .mov (.k (.val (.str ⟨#[]⟩))), none⟩,
    ⟨some 3, .mov (.k (.val (.int .i64 5))), none⟩]) (
  .ret)) (
  .skip))) (
 .seq (
 .reg [
   ⟨some 2, .mov (.k (.val (.str ⟨#[117, 114, 105]⟩))), none⟩,
   ⟨some 3, .mov (.k (.val (.int .i64 0))), none⟩]) (
 .ret))))
theorem ok117 : chkFn Tryz.prog 117 ir117 1 [.t 2, .t 3] = true := by kernel_rfl

/-- loop.example/g00779/spec.GroupFor -/
def ir52 : PC :=
 .seq (
 .reg [
   ⟨some 1, .box (.t 0), none⟩,
   ⟨some 2, .mov (.k (.val (.str ⟨#[]⟩))), none⟩,
   ⟨some 3, .mov (.k (.val (.int .i64 0))), none⟩]) (
 .seq (
 .seq (
 .reg [
   ⟨some 4, .load true 3 (.t 1), none⟩,
   ⟨some 5, .call 93 [.t 4], none⟩,
   ⟨some 6, .un .not (.t 5), none⟩]) (
 .cond (.t 6) (
  .seq (
  .reg [
    ⟨some 2, .mov (.k (.val (.str ⟨#[]⟩))), none⟩,
    ⟨some 3, .mov (.k (.val (.int .i64 1))), none⟩]) (
  .ret)) (
  .skip))) (
 .seq (
 .reg [
   ⟨some 7, .load true 3 (.t 1), none⟩,
   ⟨some 8, .call 117 [.t 7], none⟩,
   ⟨some 9, .ext 0 (.t 8), none⟩,
   ⟨some 10, .ext 1 (.t 8), none⟩,
   ⟨some 2, .mov (.t 9), none⟩,
   ⟨some 3, .mov (.t 10), none⟩]) (
 .ret)))
theorem ok52 : chkFn Tryz.prog 52 ir52 1 [.t 2, .t 3] = true := by kernel_rfl

end Go.Proofs
end

/- Functions of the seat as data. MADE BY PROGRAM (print_ir.py). -/
section
set_option maxRecDepth 100000
namespace Go.Proofs
open Go.PW

/-- loop.example/g00779/laws.szStringS -/
def ir91 : PC :=
 .seq (
 .reg [
   ⟨some 4, .mov (.k (.val (.int .i64 0))), none⟩]) (
 .seq (
 .reg [
   ⟨some 6, .mov (.t 1), none⟩,
   ⟨some 7, .mov (.t 0), none⟩,
   ⟨some 8, .len (.t 7), none⟩,
   ⟨some 9, .bin .sub (.t 6) (.t 8), none⟩,
   ⟨some 1, .mov (.t 9), none⟩]) (
 .seq (
 .seq (
 .reg [
   ⟨some 10, .mov (.t 1), none⟩,
   ⟨some 11, .bin .lss (.t 10) (.k (.val (.int .i64 0))), none⟩]) (
 .cond (.t 11) (
  .seq (
  .reg [
    ⟨some 4, .mov (.k (.val (.int .i64 (-1)))), none⟩]) (
  .ret)) (
  .skip))) (
 .seq (
 .seq (
 .reg [
   ⟨some 5, .mov (.k (.val (.int .i64 0))), none⟩]) (
 .block 0 (
  .loop (.ghost (
   .seq (
   .seq (
   .reg [
     ⟨some 12, .mov (.t 5), none⟩,
     ⟨some 13, .mov (.t 0), none⟩,
     ⟨some 14, .len (.t 13), none⟩,
     ⟨some 15, .bin .lss (.t 12) (.t 14), none⟩]) (
   .cond (.t 15) (
    .skip) (
    .exit 0))) (
   .seq (
   .block 1 (
    .seq (
    .reg [
      ⟨some 18, .mov (.t 1), none⟩,
      ⟨some 19, .mov (.t 0), none⟩,
      ⟨some 20, .mov (.t 5), none⟩,
      ⟨some 21, .iaddr 1 (.t 19) (.t 20), none⟩,
      ⟨some 22, .load false 1 (.t 21), none⟩,
      ⟨some 23, .lens (.t 22), none⟩,
      ⟨some 24, .bin .sub (.t 18) (.t 23), none⟩,
      ⟨some 1, .mov (.t 24), none⟩]) (
    .seq (
    .reg [
      ⟨some 25, .mov (.t 1), none⟩,
      ⟨some 26, .bin .lss (.t 25) (.k (.val (.int .i64 0))), none⟩]) (
    .cond (.t 26) (
     .seq (
     .reg [
       ⟨some 4, .mov (.k (.val (.int .i64 (-1)))), none⟩]) (
     .ret)) (
     .skip))))) (
   .reg [
     ⟨some 16, .mov (.t 5), none⟩,
     ⟨some 17, .bin .add (.t 16) (.k (.val (.int .i64 1))), none⟩,
     ⟨some 5, .mov (.t 17), none⟩]))))))) (
 .seq (
 .reg [
   ⟨some 27, .mov (.t 1), none⟩,
   ⟨some 4, .mov (.t 27), none⟩]) (
 .ret)))))
theorem ok91 : chkFn Tryz.prog 91 ir91 2 [.t 4] = true := by kernel_rfl

/-- loop.example/g00779/laws.szRule -/
def ir160 : PC :=
 .seq (
 .reg [
   ⟨some 2, .box (.t 0), none⟩,
   ⟨some 4, .mov (.k (.val (.int .i64 0))), none⟩]) (
 .seq (
 .reg [
   ⟨some 5, .mov (.t 1), none⟩,
   ⟨some 6, .faddr 0 (.t 2), none⟩,
   ⟨some 7, .load false 1 (.t 6), none⟩,
   ⟨some 8, .lens (.t 7), none⟩,
   ⟨some 9, .bin .sub (.t 5) (.t 8), none⟩,
   ⟨some 1, .mov (.t 9), none⟩]) (
 .seq (
 .seq (
 .reg [
   ⟨some 10, .mov (.t 1), none⟩,
   ⟨some 11, .bin .lss (.t 10) (.k (.val (.int .i64 0))), none⟩]) (
 .cond (.t 11) (
  .seq (
  .reg [
    ⟨some 4, .mov (.k (.val (.int .i64 (-1)))), none⟩]) (
  .ret)) (
  .skip))) (
 .seq (
 .reg [
   ⟨some 12, .faddr 1 (.t 2), none⟩,
   ⟨some 13, .load false 1 (.t 12), none⟩,
   ⟨some 14, .mov (.t 1), none⟩,
   ⟨some 15, .call 91 [.t 13, .t 14], none⟩,
   ⟨some 1, .mov (.t 15), none⟩]) (
 .seq (
 .seq (
 .reg [
   ⟨some 16, .mov (.t 1), none⟩,
   ⟨some 17, .bin .lss (.t 16) (.k (.val (.int .i64 0))), none⟩]) (
 .cond (.t 17) (
  .seq (
  .reg [
    ⟨some 4, .mov (.k (.val (.int .i64 (-1)))), none⟩]) (
  .ret)) (
  .skip))) (
 .seq (
 .reg [
   ⟨some 18, .mov (.t 1), none⟩,
   ⟨some 4, .mov (.t 18), none⟩]) (
 .ret))))))
theorem ok160 : chkFn Tryz.prog 160 ir160 2 [.t 4] = true := by kernel_rfl

/-- loop.example/g00779/laws.szRuleS -/
def ir92 : PC :=
 .seq (
 .reg [
   ⟨some 4, .mov (.k (.val (.int .i64 0))), none⟩]) (
 .seq (
 .reg [
   ⟨some 6, .mov (.t 1), none⟩,
   ⟨some 7, .mov (.t 0), none⟩,
   ⟨some 8, .len (.t 7), none⟩,
   ⟨some 9, .bin .sub (.t 6) (.t 8), none⟩,
   ⟨some 1, .mov (.t 9), none⟩]) (
 .seq (
 .seq (
 .reg [
   ⟨some 10, .mov (.t 1), none⟩,
   ⟨some 11, .bin .lss (.t 10) (.k (.val (.int .i64 0))), none⟩]) (
 .cond (.t 11) (
  .seq (
  .reg [
    ⟨some 4, .mov (.k (.val (.int .i64 (-1)))), none⟩]) (
  .ret)) (
  .skip))) (
 .seq (
 .seq (
 .reg [
   ⟨some 5, .mov (.k (.val (.int .i64 0))), none⟩]) (
 .block 0 (
  .loop (.ghost (
   .seq (
   .seq (
   .reg [
     ⟨some 12, .mov (.t 5), none⟩,
     ⟨some 13, .mov (.t 0), none⟩,
     ⟨some 14, .len (.t 13), none⟩,
     ⟨some 15, .bin .lss (.t 12) (.t 14), none⟩]) (
   .cond (.t 15) (
    .skip) (
    .exit 0))) (
   .seq (
   .block 1 (
    .seq (
    .reg [
      ⟨some 18, .mov (.t 0), none⟩,
      ⟨some 19, .mov (.t 5), none⟩,
      ⟨some 20, .iaddr 2 (.t 18) (.t 19), none⟩,
      ⟨some 21, .load true 2 (.t 20), none⟩,
      ⟨some 22, .mov (.t 1), none⟩,
      ⟨some 23, .call 160 [.t 21, .t 22], none⟩,
      ⟨some 1, .mov (.t 23), none⟩]) (
    .seq (
    .reg [
      ⟨some 24, .mov (.t 1), none⟩,
      ⟨some 25, .bin .lss (.t 24) (.k (.val (.int .i64 0))), none⟩]) (
    .cond (.t 25) (
     .seq (
     .reg [
       ⟨some 4, .mov (.k (.val (.int .i64 (-1)))), none⟩]) (
     .ret)) (
     .skip))))) (
   .reg [
     ⟨some 16, .mov (.t 5), none⟩,
     ⟨some 17, .bin .add (.t 16) (.k (.val (.int .i64 1))), none⟩,
     ⟨some 5, .mov (.t 17), none⟩]))))))) (
 .seq (
 .reg [
   ⟨some 26, .mov (.t 1), none⟩,
   ⟨some 4, .mov (.t 26), none⟩]) (
 .ret)))))
theorem ok92 : chkFn Tryz.prog 92 ir92 2 [.t 4] = true := by kernel_rfl

/-- loop.example/g00779/laws.szPolicy -/
def ir35 : PC :=
 .seq (
 .reg [
   ⟨some 2, .box (.t 0), none⟩,
   ⟨some 4, .mov (.k (.val (.int .i64 0))), none⟩]) (
 .seq (
 .reg [
   ⟨some 5, .mov (.t 1), none⟩,
   ⟨some 6, .faddr 0 (.t 2), none⟩,
   ⟨some 7, .load false 1 (.t 6), none⟩,
   ⟨some 8, .lens (.t 7), none⟩,
   ⟨some 9, .bin .sub (.t 5) (.t 8), none⟩,
   ⟨some 1, .mov (.t 9), none⟩]) (
 .seq (
 .seq (
 .reg [
   ⟨some 10, .mov (.t 1), none⟩,
   ⟨some 11, .bin .lss (.t 10) (.k (.val (.int .i64 0))), none⟩]) (
 .cond (.t 11) (
  .seq (
  .reg [
    ⟨some 4, .mov (.k (.val (.int .i64 (-1)))), none⟩]) (
  .ret)) (
  .skip))) (
 .seq (
 .reg [
   ⟨some 12, .faddr 1 (.t 2), none⟩,
   ⟨some 13, .load false 1 (.t 12), none⟩,
   ⟨some 14, .mov (.t 1), none⟩,
   ⟨some 15, .call 91 [.t 13, .t 14], none⟩,
   ⟨some 1, .mov (.t 15), none⟩]) (
 .seq (
 .seq (
 .reg [
   ⟨some 16, .mov (.t 1), none⟩,
   ⟨some 17, .bin .lss (.t 16) (.k (.val (.int .i64 0))), none⟩]) (
 .cond (.t 17) (
  .seq (
  .reg [
    ⟨some 4, .mov (.k (.val (.int .i64 (-1)))), none⟩]) (
  .ret)) (
  .skip))) (
 .seq (
 .reg [
   ⟨some 18, .faddr 2 (.t 2), none⟩,
   ⟨some 19, .load false 1 (.t 18), none⟩,
   ⟨some 20, .mov (.t 1), none⟩,
   ⟨some 21, .call 92 [.t 19, .t 20], none⟩,
   ⟨some 1, .mov (.t 21), none⟩]) (
 .seq (
 .seq (
 .reg [
   ⟨some 22, .mov (.t 1), none⟩,
   ⟨some 23, .bin .lss (.t 22) (.k (.val (.int .i64 0))), none⟩]) (
 .cond (.t 23) (
  .seq (
  .reg [
    ⟨some 4, .mov (.k (.val (.int .i64 (-1)))), none⟩]) (
  .ret)) (
  .skip))) (
 .seq (
 .reg [
   ⟨some 24, .mov (.t 1), none⟩,
   ⟨some 4, .mov (.t 24), none⟩]) (
 .ret))))))))
theorem ok35 : chkFn Tryz.prog 35 ir35 2 [.t 4] = true := by kernel_rfl

/-- loop.example/g00779/laws.toStringS -/
def ir94 : PC :=
 .seq (
 .reg [
   ⟨some 2, .mov (.k (.emp 1)), none⟩]) (
 .seq (
 .reg [
   ⟨some 5, .mov (.t 0), none⟩,
   ⟨some 6, .len (.t 5), none⟩,
   ⟨some 7, .mks 9 1 16 false [.val (.str ⟨#[]⟩)] (.t 6), none⟩,
   ⟨some 3, .mov (.t 7), none⟩]) (
 .seq (
 .seq (
 .reg [
   ⟨some 4, .mov (.k (.val (.int .i64 0))), none⟩]) (
 .block 0 (
  .loop (.ghost (
   .seq (
   .seq (
   .reg [
     ⟨some 8, .mov (.t 4), none⟩,
     ⟨some 9, .mov (.t 0), none⟩,
     ⟨some 10, .len (.t 9), none⟩,
     ⟨some 11, .bin .lss (.t 8) (.t 10), none⟩]) (
   .cond (.t 11) (
    .skip) (
    .exit 0))) (
   .seq (
   .block 1 (
    .reg [
      ⟨some 14, .mov (.t 3), none⟩,
      ⟨some 15, .mov (.t 4), none⟩,
      ⟨some 16, .mov (.t 0), none⟩,
      ⟨some 17, .mov (.t 4), none⟩,
      ⟨some 18, .iaddr 1 (.t 16) (.t 17), none⟩,
      ⟨some 19, .load false 1 (.t 18), none⟩,
      ⟨some 20, .iaddr 1 (.t 14) (.t 15), none⟩,
      ⟨none, .store 1 (.t 20) (.t 19), none⟩])) (
   .reg [
     ⟨some 12, .mov (.t 4), none⟩,
     ⟨some 13, .bin .add (.t 12) (.k (.val (.int .i64 1))), none⟩,
     ⟨some 4, .mov (.t 13), none⟩]))))))) (
 .seq (
 .reg [
   ⟨some 21, .mov (.t 3), none⟩,
   ⟨some 2, .mov (.t 21), none⟩]) (
 .ret))))
theorem ok94 : chkFn Tryz.prog 94 ir94 1 [.t 2] = true := by kernel_rfl

/-- loop.example/g00779/laws.toRule -/
def ir165 : PC :=
 .seq (
 .reg [
   ⟨some 1, .box (.t 0), none⟩,
   ⟨some 2, .alloc [.val (.str ⟨#[]⟩), .emp 1], none⟩]) (
 .seq (
 .reg [
   ⟨some 3, .alloc [.val (.str ⟨#[]⟩), .emp 1], none⟩]) (
 .seq (
 .reg [
   ⟨some 4, .faddr 0 (.t 1), none⟩,
   ⟨some 5, .load false 1 (.t 4), none⟩,
   ⟨some 6, .faddr 0 (.t 3), none⟩,
   ⟨none, .store 1 (.t 6) (.t 5), none⟩]) (
 .seq (
 .reg [
   ⟨some 7, .faddr 1 (.t 1), none⟩,
   ⟨some 8, .load false 1 (.t 7), none⟩,
   ⟨some 9, .call 94 [.t 8], none⟩,
   ⟨some 10, .faddr 1 (.t 3), none⟩,
   ⟨none, .store 1 (.t 10) (.t 9), none⟩]) (
 .seq (
 .reg [
   ⟨some 11, .load true 2 (.t 3), none⟩,
   ⟨none, .store 2 (.t 2) (.t 11), none⟩]) (
 .ret)))))
theorem ok165 : chkFn Tryz.prog 165 ir165 1 [.c 2 true 2] = true := by kernel_rfl

/-- loop.example/g00779/laws.toRuleS -/
def ir95 : PC :=
 .seq (
 .reg [
   ⟨some 2, .mov (.k (.emp 2)), none⟩]) (
 .seq (
 .reg [
   ⟨some 5, .mov (.t 0), none⟩,
   ⟨some 6, .len (.t 5), none⟩,
   ⟨some 7, .mks 128 2 40 true [.val (.str ⟨#[]⟩), .emp 1] (.t 6), none⟩,
   ⟨some 3, .mov (.t 7), none⟩]) (
 .seq (
 .seq (
 .reg [
   ⟨some 4, .mov (.k (.val (.int .i64 0))), none⟩]) (
 .block 0 (
  .loop (.ghost (
   .seq (
   .seq (
   .reg [
     ⟨some 8, .mov (.t 4), none⟩,
     ⟨some 9, .mov (.t 0), none⟩,
     ⟨some 10, .len (.t 9), none⟩,
     ⟨some 11, .bin .lss (.t 8) (.t 10), none⟩]) (
   .cond (.t 11) (
    .skip) (
    .exit 0))) (
   .seq (
   .block 1 (
    .reg [
      ⟨some 14, .mov (.t 3), none⟩,
      ⟨some 15, .mov (.t 4), none⟩,
      ⟨some 16, .mov (.t 0), none⟩,
      ⟨some 17, .mov (.t 4), none⟩,
      ⟨some 18, .iaddr 2 (.t 16) (.t 17), none⟩,
      ⟨some 19, .load true 2 (.t 18), none⟩,
      ⟨some 20, .call 165 [.t 19], none⟩,
      ⟨some 21, .iaddr 2 (.t 14) (.t 15), none⟩,
      ⟨none, .store 2 (.t 21) (.t 20), none⟩])) (
   .reg [
     ⟨some 12, .mov (.t 4), none⟩,
     ⟨some 13, .bin .add (.t 12) (.k (.val (.int .i64 1))), none⟩,
     ⟨some 4, .mov (.t 13), none⟩]))))))) (
 .seq (
 .reg [
   ⟨some 22, .mov (.t 3), none⟩,
   ⟨some 2, .mov (.t 22), none⟩]) (
 .ret))))
theorem ok95 : chkFn Tryz.prog 95 ir95 1 [.t 2] = true := by kernel_rfl

/-- loop.example/g00779/laws.toPolicy -/
def ir37 : PC :=
 .seq (
 .reg [
   ⟨some 1, .box (.t 0), none⟩,
   ⟨some 2, .alloc [.val (.str ⟨#[]⟩), .emp 1, .emp 2], none⟩]) (
 .seq (
 .reg [
   ⟨some 3, .alloc [.val (.str ⟨#[]⟩), .emp 1, .emp 2], none⟩]) (
 .seq (
 .reg [
   ⟨some 4, .faddr 0 (.t 1), none⟩,
   ⟨some 5, .load false 1 (.t 4), none⟩,
   ⟨some 6, .faddr 0 (.t 3), none⟩,
   ⟨none, .store 1 (.t 6) (.t 5), none⟩]) (
 .seq (
 .reg [
   ⟨some 7, .faddr 1 (.t 1), none⟩,
   ⟨some 8, .load false 1 (.t 7), none⟩,
   ⟨some 9, .call 94 [.t 8], none⟩,
   ⟨some 10, .faddr 1 (.t 3), none⟩,
   ⟨none, .store 1 (.t 10) (.t 9), none⟩]) (
 .seq (
 .reg [
   ⟨some 11, .faddr 2 (.t 1), none⟩,
   ⟨some 12, .load false 1 (.t 11), none⟩,
   ⟨some 13, .call 95 [.t 12], none⟩,
   ⟨some 14, .faddr 2 (.t 3), none⟩,
   ⟨none, .store 1 (.t 14) (.t 13), none⟩]) (
 .seq (
 .reg [
   ⟨some 15, .load true 3 (.t 3), none⟩,
   ⟨none, .store 3 (.t 2) (.t 15), none⟩]) (
 .ret))))))
theorem ok37 : chkFn Tryz.prog 37 ir37 1 [.c 2 true 3] = true := by kernel_rfl

/-- loop.example/g00779/laws.eqStringS -/
def ir101 : PC :=
 .seq (
 .reg [
   ⟨some 4, .mov (.k (.val (.bool false))), none⟩]) (
 .seq (
 .seq (
 .reg [
   ⟨some 6, .mov (.t 0), none⟩,
   ⟨some 7, .len (.t 6), none⟩,
   ⟨some 8, .mov (.t 1), none⟩,
   ⟨some 9, .len (.t 8), none⟩,
   ⟨some 10, .bin .neq (.t 7) (.t 9), none⟩]) (
 .cond (.t 10) (
  .seq (
  .reg [
    ⟨some 4, .mov (.k (.val (.bool false))), none⟩]) (
  .ret)) (
  .skip))) (
 .seq (
 .seq (
 .reg [
   ⟨some 5, .mov (.k (.val (.int .i64 0))), none⟩]) (
 .block 0 (
  .loop (.ghost (
   .seq (
   .seq (
   .reg [
     ⟨some 11, .mov (.t 5), none⟩,
     ⟨some 12, .mov (.t 0), none⟩,
     ⟨some 13, .len (.t 12), none⟩,
     ⟨some 14, .bin .lss (.t 11) (.t 13), none⟩]) (
   .cond (.t 14) (
    .skip) (
    .exit 0))) (
   .seq (
   .block 1 (
    .seq (
    .draw [
      ⟨some 17, .mov (.t 0), none⟩,
      ⟨some 18, .mov (.t 5), none⟩,
      ⟨some 19, .iaddr 1 (.t 17) (.t 18), none⟩,
      ⟨some 20, .load false 1 (.t 19), none⟩,
      ⟨some 21, .mov (.t 1), none⟩,
      ⟨some 22, .mov (.t 5), none⟩,
      ⟨some 23, .iaddr 1 (.t 21) (.t 22), none⟩,
      ⟨some 24, .load false 1 (.t 23), none⟩] [
      ⟨some 25, .bin .neq (.t 20) (.t 24), none⟩]) (
    .cond (.t 25) (
     .seq (
     .reg [
       ⟨some 4, .mov (.k (.val (.bool false))), none⟩]) (
     .ret)) (
     .skip)))) (
   .reg [
     ⟨some 15, .mov (.t 5), none⟩,
     ⟨some 16, .bin .add (.t 15) (.k (.val (.int .i64 1))), none⟩,
     ⟨some 5, .mov (.t 16), none⟩]))))))) (
 .seq (
 .reg [
   ⟨some 4, .mov (.k (.val (.bool true))), none⟩]) (
 .ret))))
theorem ok101 : chkFn Tryz.prog 101 ir101 2 [.t 4] = true := by kernel_rfl

/-- loop.example/g00779/laws.eqRule -/
def ir174 : PC :=
 .seq (
 .reg [
   ⟨some 2, .box (.t 0), none⟩,
   ⟨some 3, .box (.t 1), none⟩,
   ⟨some 4, .mov (.k (.val (.bool false))), none⟩]) (
 .seq (
 .seq (
 .reg [
   ⟨some 5, .faddr 0 (.t 2), none⟩,
   ⟨some 6, .load false 1 (.t 5), none⟩,
   ⟨some 7, .faddr 0 (.t 3), none⟩,
   ⟨some 8, .load false 1 (.t 7), none⟩,
   ⟨some 9, .bin .neq (.t 6) (.t 8), none⟩]) (
 .cond (.t 9) (
  .seq (
  .reg [
    ⟨some 4, .mov (.k (.val (.bool false))), none⟩]) (
  .ret)) (
  .skip))) (
 .seq (
 .seq (
 .reg [
   ⟨some 10, .faddr 1 (.t 2), none⟩,
   ⟨some 11, .load false 1 (.t 10), none⟩,
   ⟨some 12, .faddr 1 (.t 3), none⟩,
   ⟨some 13, .load false 1 (.t 12), none⟩,
   ⟨some 14, .call 101 [.t 11, .t 13], none⟩,
   ⟨some 15, .un .not (.t 14), none⟩]) (
 .cond (.t 15) (
  .seq (
  .reg [
    ⟨some 4, .mov (.k (.val (.bool false))), none⟩]) (
  .ret)) (
  .skip))) (
 .seq (
 .reg [
   ⟨some 4, .mov (.k (.val (.bool true))), none⟩]) (
 .ret))))
theorem ok174 : chkFn Tryz.prog 174 ir174 2 [.t 4] = true := by kernel_rfl

/-- loop.example/g00779/laws.eqRuleS -/
def ir102 : PC :=
 .seq (
 .reg [
   ⟨some 4, .mov (.k (.val (.bool false))), none⟩]) (
 .seq (
 .seq (
 .reg [
   ⟨some 6, .mov (.t 0), none⟩,
   ⟨some 7, .len (.t 6), none⟩,
   ⟨some 8, .mov (.t 1), none⟩,
   ⟨some 9, .len (.t 8), none⟩,
   ⟨some 10, .bin .neq (.t 7) (.t 9), none⟩]) (
 .cond (.t 10) (
  .seq (
  .reg [
    ⟨some 4, .mov (.k (.val (.bool false))), none⟩]) (
  .ret)) (
  .skip))) (
 .seq (
 .seq (
 .reg [
   ⟨some 5, .mov (.k (.val (.int .i64 0))), none⟩]) (
 .block 0 (
  .loop (.ghost (
   .seq (
   .seq (
   .reg [
     ⟨some 11, .mov (.t 5), none⟩,
     ⟨some 12, .mov (.t 0), none⟩,
     ⟨some 13, .len (.t 12), none⟩,
     ⟨some 14, .bin .lss (.t 11) (.t 13), none⟩]) (
   .cond (.t 14) (
    .skip) (
    .exit 0))) (
   .seq (
   .block 1 (
    .seq (
    .draw [
      ⟨some 17, .mov (.t 0), none⟩,
      ⟨some 18, .mov (.t 5), none⟩,
      ⟨some 19, .iaddr 2 (.t 17) (.t 18), none⟩,
      ⟨some 20, .load true 2 (.t 19), none⟩,
      ⟨some 21, .mov (.t 1), none⟩,
      ⟨some 22, .mov (.t 5), none⟩,
      ⟨some 23, .iaddr 2 (.t 21) (.t 22), none⟩,
      ⟨some 24, .load true 2 (.t 23), none⟩] [
      ⟨some 25, .call 174 [.t 20, .t 24], none⟩,
      ⟨some 26, .un .not (.t 25), none⟩]) (
    .cond (.t 26) (
     .seq (
     .reg [
       ⟨some 4, .mov (.k (.val (.bool false))), none⟩]) (
     .ret)) (
     .skip)))) (
   .reg [
     ⟨some 15, .mov (.t 5), none⟩,
     ⟨some 16, .bin .add (.t 15) (.k (.val (.int .i64 1))), none⟩,
     ⟨some 5, .mov (.t 16), none⟩]))))))) (
 .seq (
 .reg [
   ⟨some 4, .mov (.k (.val (.bool true))), none⟩]) (
 .ret))))
theorem ok102 : chkFn Tryz.prog 102 ir102 2 [.t 4] = true := by kernel_rfl

/-- loop.example/g00779/laws.eqPolicy -/
def ir39 : PC :=
 .seq (
 .reg [
   ⟨some 2, .box (.t 0), none⟩,
   ⟨some 3, .box (.t 1), none⟩,
   ⟨some 4, .mov (.k (.val (.bool false))), none⟩]) (
 .seq (
 .seq (
 .reg [
   ⟨some 5, .faddr 0 (.t 2), none⟩,
   ⟨some 6, .load false 1 (.t 5), none⟩,
   ⟨some 7, .faddr 0 (.t 3), none⟩,
   ⟨some 8, .load false 1 (.t 7), none⟩,
   ⟨some 9, .bin .neq (.t 6) (.t 8), none⟩]) (
 .cond (.t 9) (
  .seq (
  .reg [
    ⟨some 4, .mov (.k (.val (.bool false))), none⟩]) (
  .ret)) (
  .skip))) (
 .seq (
 .seq (
 .reg [
   ⟨some 10, .faddr 1 (.t 2), none⟩,
   ⟨some 11, .load false 1 (.t 10), none⟩,
   ⟨some 12, .faddr 1 (.t 3), none⟩,
   ⟨some 13, .load false 1 (.t 12), none⟩,
   ⟨some 14, .call 101 [.t 11, .t 13], none⟩,
   ⟨some 15, .un .not (.t 14), none⟩]) (
 .cond (.t 15) (
  .seq (
  .reg [
    ⟨some 4, .mov (.k (.val (.bool false))), none⟩]) (
  .ret)) (
  .skip))) (
 .seq (
 .seq (
 .reg [
   ⟨some 16, .faddr 2 (.t 2), none⟩,
   ⟨some 17, .load false 1 (.t 16), none⟩,
   ⟨some 18, .faddr 2 (.t 3), none⟩,
   ⟨some 19, .load false 1 (.t 18), none⟩,
   ⟨some 20, .call 102 [.t 17, .t 19], none⟩,
   ⟨some 21, .un .not (.t 20), none⟩]) (
 .cond (.t 21) (
  .seq (
  .reg [
    ⟨some 4, .mov (.k (.val (.bool false))), none⟩]) (
  .ret)) (
  .skip))) (
 .seq (
 .reg [
   ⟨some 4, .mov (.k (.val (.bool true))), none⟩]) (
 .ret)))))
theorem ok39 : chkFn Tryz.prog 39 ir39 2 [.t 4] = true := by kernel_rfl

end Go.Proofs
end

/- Functions of the seat as data. MADE BY PROGRAM (print_ir.py). -/
section
set_option maxRecDepth 100000
namespace Go.Proofs
open Go.PW

def ir171_s36 : PC :=
 .seq (
 .reg [
   ⟨some 36, .mov (.t 5), none⟩,
   ⟨some 37, .un .not (.t 36), none⟩,
   ⟨some 38, .mov (.t 37), none⟩,
   ⟨some 39, .mov (.t 3), some (38, true)⟩,
   ⟨some 40, .bin .eql (.t 39) (.k (.val (.int .i64 0))), some (38, true)⟩,
   ⟨some 41, .mov (.t 40), some (38, true)⟩,
   ⟨some 42, .mov (.t 4), some (41, false)⟩,
   ⟨some 43, .bin .lss (.t 42) (.k (.val (.int .u8 48))), some (41, false)⟩,
   ⟨some 44, .pick (.t 41) (.k (.val (.bool true))) (.t 43), some (38, true)⟩,
   ⟨some 45, .mov (.t 44), some (38, true)⟩,
   ⟨some 46, .mov (.t 4), some (45, false)⟩,
   ⟨some 47, .bin .gtr (.t 46) (.k (.val (.int .u8 57))), some (45, false)⟩,
   ⟨some 48, .pick (.t 45) (.k (.val (.bool true))) (.t 47), some (38, true)⟩,
   ⟨some 49, .pick (.t 38) (.t 48) (.k (.val (.bool false))), none⟩]) (
 .cond (.t 49) (
  .seq (
  .reg [
    ⟨some 2, .mov (.k (.val (.bool false))), none⟩]) (
  .ret)) (
  .skip))
/-- loop.example/g00779/impl.NameOK -/
def ir171 : PC :=
 .seq (
 .reg [
   ⟨some 2, .mov (.k (.val (.bool false))), none⟩]) (
 .seq (
 .seq (
 .reg [
   ⟨some 6, .mov (.t 0), none⟩,
   ⟨some 7, .lens (.t 6), none⟩,
   ⟨some 8, .call 126 [.t 7, .k (.val (.int .i64 1)), .k (.val (.int .i64 12))], none⟩,
   ⟨some 9, .un .not (.t 8), none⟩]) (
 .cond (.t 9) (
  .seq (
  .reg [
    ⟨some 2, .mov (.k (.val (.bool false))), none⟩]) (
  .ret)) (
  .skip))) (
 .seq (
 .seq (
 .reg [
   ⟨some 10, .mov (.t 0), none⟩,
   ⟨some 11, .lens (.t 10), none⟩,
   ⟨some 12, .mov (.k (.val (.int .i64 0))), none⟩]) (
 .block 0 (
  .loop (.ghost (
   .seq (
   .reg [
     ⟨some 13, .bin .lss (.t 12) (.t 11), none⟩]) (
   .seq (
   .cond (.t 13) (
    .skip) (
    .exit 0)) (
   .seq (
   .block 1 (
    .seq (
    .reg [
      ⟨some 14, .mov (.t 12), none⟩,
      ⟨some 3, .mov (.t 14), none⟩]) (
    .seq (
    .reg [
      ⟨some 15, .mov (.t 0), none⟩,
      ⟨some 16, .mov (.t 3), none⟩,
      ⟨some 17, .idx (.t 15) (.t 16), none⟩,
      ⟨some 4, .mov (.t 17), none⟩]) (
    .seq (
    .reg [
      ⟨some 18, .mov (.t 4), none⟩,
      ⟨some 19, .bin .leq (.k (.val (.int .u8 97))) (.t 18), none⟩,
      ⟨some 20, .mov (.t 19), none⟩,
      ⟨some 21, .mov (.t 4), some (20, true)⟩,
      ⟨some 22, .bin .leq (.t 21) (.k (.val (.int .u8 122))), some (20, true)⟩,
      ⟨some 23, .pick (.t 20) (.t 22) (.k (.val (.bool false))), none⟩,
      ⟨some 24, .mov (.t 23), none⟩,
      ⟨some 25, .mov (.t 4), some (24, false)⟩,
      ⟨some 26, .bin .leq (.k (.val (.int .u8 65))) (.t 25), some (24, false)⟩,
      ⟨some 27, .mov (.t 26), some (24, false)⟩,
      ⟨some 28, .mov (.t 4), some (27, true)⟩,
      ⟨some 29, .bin .leq (.t 28) (.k (.val (.int .u8 90))), some (27, true)⟩,
      ⟨some 30, .pick (.t 27) (.t 29) (.k (.val (.bool false))), some (24, false)⟩,
      ⟨some 31, .pick (.t 24) (.k (.val (.bool true))) (.t 30), none⟩,
      ⟨some 32, .mov (.t 31), none⟩,
      ⟨some 33, .mov (.t 4), some (32, false)⟩,
      ⟨some 34, .bin .eql (.t 33) (.k (.val (.int .u8 95))), some (32, false)⟩,
      ⟨some 35, .pick (.t 32) (.k (.val (.bool true))) (.t 34), none⟩,
      ⟨some 5, .mov (.t 35), none⟩]) (
    ir171_s36))))) (
   .reg [
     ⟨some 50, .bin .add (.t 12) (.k (.val (.int .i64 1))), none⟩,
     ⟨some 12, .mov (.t 50), none⟩])))))))) (
 .seq (
 .reg [
   ⟨some 2, .mov (.k (.val (.bool true))), none⟩]) (
 .ret))))
theorem ok171 : chkFn Tryz.prog 171 ir171 1 [.t 2] = true := by kernel_rfl

/-- loop.example/g00779/impl.isRule -/
def ir149 : PC :=
 .seq (
 .reg [
   ⟨some 2, .mov (.k (.val (.bool false))), none⟩]) (
 .seq (
 .seq (
 .reg [
   ⟨some 4, .mov (.t 0), none⟩,
   ⟨some 5, .lens (.t 4), none⟩,
   ⟨some 6, .mn (.t 5) (.k (.val (.int .i64 25))), none⟩,
   ⟨some 7, .mov (.k (.val (.int .i64 0))), none⟩]) (
 .block 0 (
  .loop (.ghost (
   .seq (
   .reg [
     ⟨some 8, .bin .lss (.t 7) (.t 6), none⟩]) (
   .seq (
   .cond (.t 8) (
    .skip) (
    .exit 0)) (
   .seq (
   .block 1 (
    .seq (
    .reg [
      ⟨some 9, .mov (.t 7), none⟩,
      ⟨some 3, .mov (.t 9), none⟩]) (
    .seq (
    .reg [
      ⟨some 10, .mov (.t 0), none⟩,
      ⟨some 11, .mov (.t 3), none⟩,
      ⟨some 12, .idx (.t 10) (.t 11), none⟩,
      ⟨some 13, .call 208 [.t 12], none⟩,
      ⟨some 14, .un .not (.t 13), none⟩,
      ⟨some 15, .mov (.t 14), none⟩,
      ⟨some 16, .mov (.t 0), some (15, true)⟩,
      ⟨some 17, .mov (.t 3), some (15, true)⟩,
      ⟨some 18, .idx (.t 16) (.t 17), some (15, true)⟩,
      ⟨some 19, .bin .neq (.t 18) (.k (.val (.int .u8 45))), some (15, true)⟩,
      ⟨some 20, .mov (.t 19), some (15, true)⟩,
      ⟨some 21, .mov (.t 3), some (20, false)⟩,
      ⟨some 22, .bin .eql (.t 21) (.k (.val (.int .i64 0))), some (20, false)⟩,
      ⟨some 23, .pick (.t 20) (.k (.val (.bool true))) (.t 22), some (15, true)⟩,
      ⟨some 24, .pick (.t 15) (.t 23) (.k (.val (.bool false))), none⟩]) (
    .cond (.t 24) (
     .seq (
     .reg [
       ⟨some 2, .mov (.k (.val (.bool false))), none⟩]) (
     .ret)) (
     .skip))))) (
   .reg [
     ⟨some 25, .bin .add (.t 7) (.k (.val (.int .i64 1))), none⟩,
     ⟨some 7, .mov (.t 25), none⟩])))))))) (
 .seq (
 .reg [
   ⟨some 26, .mov (.t 0), none⟩,
   ⟨some 27, .lens (.t 26), none⟩,
   ⟨some 28, .call 126 [.t 27, .k (.val (.int .i64 1)), .k (.val (.int .i64 24))], none⟩,
   ⟨some 2, .mov (.t 28), none⟩]) (
 .ret)))
theorem ok149 : chkFn Tryz.prog 149 ir149 1 [.t 2] = true := by kernel_rfl

/-- slices.Index[[]string,string] -/
def ir136 : PC :=
 .seq (
 .reg [
   ⟨some 4, .mov (.k (.val (.int .i64 0))), none⟩]) (
 .seq (
 .seq (
 .reg [
   ⟨some 6, .mov (.t 0), none⟩,
   ⟨some 7, .len (.t 6), none⟩,
   ⟨some 8, .mov (.k (.val (.int .i64 0))), none⟩]) (
 .block 0 (
  .loop (.ghost (
   .seq (
   .reg [
     ⟨some 9, .bin .lss (.t 8) (.t 7), none⟩]) (
   .seq (
   .cond (.t 9) (
    .skip) (
    .exit 0)) (
   .seq (
   .block 1 (
    .seq (
    .reg [
      ⟨some 10, .mov (.t 8), none⟩,
      ⟨some 5, .mov (.t 10), none⟩]) (
    .seq (
    .reg [
      ⟨some 11, .mov (.t 1), none⟩,
      ⟨some 12, .mov (.t 0), none⟩,
      ⟨some 13, .mov (.t 5), none⟩,
      ⟨some 14, .iaddr 1 (.t 12) (.t 13), none⟩,
      ⟨some 15, .load false 1 (.t 14), none⟩,
      ⟨some 16, .bin .eql (.t 11) (.t 15), none⟩]) (
    .cond (.t 16) (
     .seq (
     .reg [
       ⟨some 17, .mov (.t 5), none⟩,
       ⟨some 4, .mov (.t 17), none⟩]) (
     .ret)) (
     .skip))))) (
   .reg [
     ⟨some 18, .bin .add (.t 8) (.k (.val (.int .i64 1))), none⟩,
     ⟨some 8, .mov (.t 18), none⟩])))))))) (
 .seq (
 .reg [
   ⟨some 4, .mov (.k (.val (.int .i64 (-1)))), none⟩]) (
 .ret)))
theorem ok136 : chkFn Tryz.prog 136 ir136 2 [.t 4] = true := by kernel_rfl

/-- slices.Contains[[]string,string] -/
def ir173 : PC :=
 .seq (
 .reg [
   ⟨some 4, .mov (.k (.val (.bool false))), none⟩]) (
 .seq (
 .reg [
   ⟨some 5, .mov (.t 0), none⟩,
   ⟨some 6, .mov (.t 1), none⟩,
   ⟨some 7, .call 136 [.t 5, .t 6], none⟩,
   ⟨some 8, .bin .geq (.t 7) (.k (.val (.int .i64 0))), none⟩,
   ⟨some 4, .mov (.t 8), none⟩]) (
 .ret))
theorem ok173 : chkFn Tryz.prog 173 ir173 2 [.t 4] = true := by kernel_rfl

/-- slices.Equal[[]string,string] -/
def ir100 : PC :=
 .seq (
 .reg [
   ⟨some 4, .mov (.k (.val (.bool false))), none⟩]) (
 .seq (
 .seq (
 .reg [
   ⟨some 6, .mov (.t 0), none⟩,
   ⟨some 7, .len (.t 6), none⟩,
   ⟨some 8, .mov (.t 1), none⟩,
   ⟨some 9, .len (.t 8), none⟩,
   ⟨some 10, .bin .neq (.t 7) (.t 9), none⟩]) (
 .cond (.t 10) (
  .seq (
  .reg [
    ⟨some 4, .mov (.k (.val (.bool false))), none⟩]) (
  .ret)) (
  .skip))) (
 .seq (
 .seq (
 .reg [
   ⟨some 11, .mov (.t 0), none⟩,
   ⟨some 12, .len (.t 11), none⟩,
   ⟨some 13, .mov (.k (.val (.int .i64 0))), none⟩]) (
 .block 0 (
  .loop (.ghost (
   .seq (
   .reg [
     ⟨some 14, .bin .lss (.t 13) (.t 12), none⟩]) (
   .seq (
   .cond (.t 14) (
    .skip) (
    .exit 0)) (
   .seq (
   .block 1 (
    .seq (
    .reg [
      ⟨some 15, .mov (.t 13), none⟩,
      ⟨some 5, .mov (.t 15), none⟩]) (
    .seq (
    .draw [
      ⟨some 16, .mov (.t 0), none⟩,
      ⟨some 17, .mov (.t 5), none⟩,
      ⟨some 18, .iaddr 1 (.t 16) (.t 17), none⟩,
      ⟨some 19, .load false 1 (.t 18), none⟩,
      ⟨some 20, .mov (.t 1), none⟩,
      ⟨some 21, .mov (.t 5), none⟩,
      ⟨some 22, .iaddr 1 (.t 20) (.t 21), none⟩,
      ⟨some 23, .load false 1 (.t 22), none⟩] [
      ⟨some 24, .bin .neq (.t 19) (.t 23), none⟩]) (
    .cond (.t 24) (
     .seq (
     .reg [
       ⟨some 4, .mov (.k (.val (.bool false))), none⟩]) (
     .ret)) (
     .skip))))) (
   .reg [
     ⟨some 25, .bin .add (.t 13) (.k (.val (.int .i64 1))), none⟩,
     ⟨some 13, .mov (.t 25), none⟩])))))))) (
 .seq (
 .reg [
   ⟨some 4, .mov (.k (.val (.bool true))), none⟩]) (
 .ret))))
theorem ok100 : chkFn Tryz.prog 100 ir100 2 [.t 4] = true := by kernel_rfl

/-- slices.IndexFunc[[]string,string] -/
def ir215 : PC :=
 .seq (
 .reg [
   ⟨some 4, .mov (.k (.val (.int .i64 0))), none⟩]) (
 .seq (
 .seq (
 .reg [
   ⟨some 6, .mov (.t 0), none⟩,
   ⟨some 7, .len (.t 6), none⟩,
   ⟨some 8, .mov (.k (.val (.int .i64 0))), none⟩]) (
 .block 0 (
  .loop (.ghost (
   .seq (
   .reg [
     ⟨some 9, .bin .lss (.t 8) (.t 7), none⟩]) (
   .seq (
   .cond (.t 9) (
    .skip) (
    .exit 0)) (
   .seq (
   .block 1 (
    .seq (
    .reg [
      ⟨some 10, .mov (.t 8), none⟩,
      ⟨some 5, .mov (.t 10), none⟩]) (
    .seq (
    .reg [
      ⟨some 11, .mov (.t 1), none⟩,
      ⟨some 12, .mov (.t 0), none⟩,
      ⟨some 13, .mov (.t 5), none⟩,
      ⟨some 14, .iaddr 1 (.t 12) (.t 13), none⟩,
      ⟨some 15, .load false 1 (.t 14), none⟩,
      ⟨some 16, .callv (.t 11) [.t 15], none⟩]) (
    .cond (.t 16) (
     .seq (
     .reg [
       ⟨some 17, .mov (.t 5), none⟩,
       ⟨some 4, .mov (.t 17), none⟩]) (
     .ret)) (
     .skip))))) (
   .reg [
     ⟨some 18, .bin .add (.t 8) (.k (.val (.int .i64 1))), none⟩,
     ⟨some 8, .mov (.t 18), none⟩])))))))) (
 .seq (
 .reg [
   ⟨some 4, .mov (.k (.val (.int .i64 (-1)))), none⟩]) (
 .ret)))
theorem ok215 : chkFn Tryz.prog 215 ir215 2 [.t 4] = true := by kernel_rfl

/-- slices.ContainsFunc[[]string,string] -/
def ir166 : PC :=
 .seq (
 .reg [
   ⟨some 4, .mov (.k (.val (.bool false))), none⟩]) (
 .seq (
 .reg [
   ⟨some 5, .mov (.t 0), none⟩,
   ⟨some 6, .mov (.t 1), none⟩,
   ⟨some 7, .call 215 [.t 5, .t 6], none⟩,
   ⟨some 8, .bin .geq (.t 7) (.k (.val (.int .i64 0))), none⟩,
   ⟨some 4, .mov (.t 8), none⟩]) (
 .ret))
theorem ok166 : chkFn Tryz.prog 166 ir166 2 [.t 4] = true := by kernel_rfl

/-- slices.IndexFunc[[]loop.example/g00779/impl.Rule,loop.example/g00779/impl.Rule] -/
def ir169 : PC :=
 .seq (
 .reg [
   ⟨some 4, .mov (.k (.val (.int .i64 0))), none⟩]) (
 .seq (
 .seq (
 .reg [
   ⟨some 6, .mov (.t 0), none⟩,
   ⟨some 7, .len (.t 6), none⟩,
   ⟨some 8, .mov (.k (.val (.int .i64 0))), none⟩]) (
 .block 0 (
  .loop (.ghost (
   .seq (
   .reg [
     ⟨some 9, .bin .lss (.t 8) (.t 7), none⟩]) (
   .seq (
   .cond (.t 9) (
    .skip) (
    .exit 0)) (
   .seq (
   .block 1 (
    .seq (
    .reg [
      ⟨some 10, .mov (.t 8), none⟩,
      ⟨some 5, .mov (.t 10), none⟩]) (
    .seq (
    .reg [
      ⟨some 11, .mov (.t 1), none⟩,
      ⟨some 12, .mov (.t 0), none⟩,
      ⟨some 13, .mov (.t 5), none⟩,
      ⟨some 14, .iaddr 2 (.t 12) (.t 13), none⟩,
      ⟨some 15, .load true 2 (.t 14), none⟩,
      ⟨some 16, .callv (.t 11) [.t 15], none⟩]) (
    .cond (.t 16) (
     .seq (
     .reg [
       ⟨some 17, .mov (.t 5), none⟩,
       ⟨some 4, .mov (.t 17), none⟩]) (
     .ret)) (
     .skip))))) (
   .reg [
     ⟨some 18, .bin .add (.t 8) (.k (.val (.int .i64 1))), none⟩,
     ⟨some 8, .mov (.t 18), none⟩])))))))) (
 .seq (
 .reg [
   ⟨some 4, .mov (.k (.val (.int .i64 (-1)))), none⟩]) (
 .ret)))
theorem ok169 : chkFn Tryz.prog 169 ir169 2 [.t 4] = true := by kernel_rfl

/-- slices.ContainsFunc[[]loop.example/g00779/impl.Rule,loop.example/g00779/impl.Rule] -/
def ir97 : PC :=
 .seq (
 .reg [
   ⟨some 4, .mov (.k (.val (.bool false))), none⟩]) (
 .seq (
 .reg [
   ⟨some 5, .mov (.t 0), none⟩,
   ⟨some 6, .mov (.t 1), none⟩,
   ⟨some 7, .call 169 [.t 5, .t 6], none⟩,
   ⟨some 8, .bin .geq (.t 7) (.k (.val (.int .i64 0))), none⟩,
   ⟨some 4, .mov (.t 8), none⟩]) (
 .ret))
theorem ok97 : chkFn Tryz.prog 97 ir97 2 [.t 4] = true := by kernel_rfl

/-- loop.example/g00779/impl.ruleOK$1 -/
def ir167 : PC :=
 .seq (
 .reg [
   ⟨some 2, .mov (.k (.val (.bool false))), none⟩]) (
 .seq (
 .reg [
   ⟨some 3, .mov (.t 0), none⟩,
   ⟨some 4, .bin .eql (.t 3) (.k (.val (.str ⟨#[]⟩))), none⟩,
   ⟨some 5, .mov (.t 4), none⟩,
   ⟨some 6, .mov (.t 0), some (5, false)⟩,
   ⟨some 7, .call 168 [.t 6, .k (.val (.str ⟨#[32, 9, 59]⟩))], some (5, false)⟩,
   ⟨some 8, .pick (.t 5) (.k (.val (.bool true))) (.t 7), none⟩,
   ⟨some 2, .mov (.t 8), none⟩]) (
 .ret))
theorem ok167 : chkFn Tryz.prog 167 ir167 1 [.t 2] = true := by kernel_rfl

/-- loop.example/g00779/impl.ruleOK -/
def ir96 : PC :=
 .seq (
 .reg [
   ⟨some 1, .box (.t 0), none⟩,
   ⟨some 2, .mov (.k (.val (.bool false))), none⟩]) (
 .seq (
 .reg [
   ⟨some 3, .faddr 0 (.t 1), none⟩,
   ⟨some 4, .load false 1 (.t 3), none⟩,
   ⟨some 5, .call 149 [.t 4], none⟩,
   ⟨some 6, .mov (.t 5), none⟩,
   ⟨some 7, .faddr 1 (.t 1), some (6, true)⟩,
   ⟨some 8, .load false 1 (.t 7), some (6, true)⟩,
   ⟨some 9, .len (.t 8), some (6, true)⟩,
   ⟨some 10, .bin .leq (.t 9) (.k (.val (.int .i64 8))), some (6, true)⟩,
   ⟨some 11, .pick (.t 6) (.t 10) (.k (.val (.bool false))), none⟩,
   ⟨some 12, .mov (.t 11), none⟩,
   ⟨some 13, .faddr 1 (.t 1), some (12, true)⟩,
   ⟨some 14, .load false 1 (.t 13), some (12, true)⟩,
   ⟨some 15, .call 166 [.t 14, .k (.fn 167 [])], some (12, true)⟩,
   ⟨some 16, .un .not (.t 15), some (12, true)⟩,
   ⟨some 17, .pick (.t 12) (.t 16) (.k (.val (.bool false))), none⟩,
   ⟨some 2, .mov (.t 17), none⟩]) (
 .ret))
theorem ok96 : chkFn Tryz.prog 96 ir96 1 [.t 2] = true := by kernel_rfl

/-- (loop.example/g00779/impl.Policy).rule$1 -/
def ir217 : PC :=
 .seq (
 .reg [
   ⟨some 2, .box (.t 0), none⟩,
   ⟨some 3, .mov (.k (.val (.bool false))), none⟩]) (
 .seq (
 .reg [
   ⟨some 4, .faddr 0 (.t 2), none⟩,
   ⟨some 5, .load false 1 (.t 4), none⟩,
   ⟨some 6, .load false 1 (.t 1), none⟩,
   ⟨some 7, .bin .eql (.t 5) (.t 6), none⟩,
   ⟨some 3, .mov (.t 7), none⟩]) (
 .ret))
theorem ok217 : chkFn Tryz.prog 217 ir217 2 [.t 3] = true := by kernel_rfl

/-- (loop.example/g00779/impl.Policy).rule -/
def ir170 : PC :=
 .seq (
 .reg [
   ⟨some 2, .box (.t 0), none⟩,
   ⟨some 3, .box (.t 1), none⟩,
   ⟨some 4, .mov (.k (.emp 1)), none⟩]) (
 .seq (
 .reg [
   ⟨some 6, .faddr 2 (.t 2), none⟩,
   ⟨some 7, .load false 1 (.t 6), none⟩,
   ⟨some 8, .mkfn 217 [.t 3], none⟩,
   ⟨some 9, .call 169 [.t 7, .t 8], none⟩,
   ⟨some 5, .mov (.t 9), none⟩]) (
 .seq (
 .seq (
 .reg [
   ⟨some 10, .mov (.t 5), none⟩,
   ⟨some 11, .bin .lss (.t 10) (.k (.val (.int .i64 0))), none⟩]) (
 .cond (.t 11) (
  .seq (
  .reg [
    ⟨some 4, .mov (.k (.emp 1)), none⟩]) (
  .ret)) (
  .skip))) (
 .seq (
 .reg [
   ⟨some 12, .faddr 2 (.t 2), none⟩,
   ⟨some 13, .load false 1 (.t 12), none⟩,
   ⟨some 14, .mov (.t 5), none⟩,
   ⟨some 15, .iaddr 2 (.t 13) (.t 14), none⟩,
   ⟨some 16, .faddr 1 (.t 15), none⟩,
   ⟨some 17, .load false 1 (.t 16), none⟩,
   ⟨some 4, .mov (.t 17), none⟩]) (
 .ret))))
theorem ok170 : chkFn Tryz.prog 170 ir170 2 [.t 4] = true := by kernel_rfl

def ir99_from4 : PC :=
 .seq (
 .reg [
   ⟨some 58, .load true 3 (.t 1), none⟩,
   ⟨none, .store 3 (.t 2) (.t 58), none⟩]) (
 .ret)
def ir99_from3 : PC :=
 .seq (
 .seq (
 .reg [
   ⟨some 25, .load true 3 (.t 1), none⟩,
   ⟨some 26, .call 170 [.t 25, .k (.val (.str ⟨#[114, 101, 112, 111, 114, 116, 45, 117, 114, 105]⟩))], none⟩,
   ⟨some 27, .len (.t 26), none⟩,
   ⟨some 28, .mov (.k (.val (.int .i64 0))), none⟩]) (
 .block 0 (
  .loop (.ghost (
   .seq (
   .reg [
     ⟨some 29, .bin .lss (.t 28) (.t 27), none⟩]) (
   .seq (
   .cond (.t 29) (
    .skip) (
    .exit 0)) (
   .seq (
   .block 1 (
    .seq (
    .reg [
      ⟨some 30, .iaddr 1 (.t 26) (.t 28), none⟩,
      ⟨some 31, .load false 1 (.t 30), none⟩,
      ⟨some 5, .mov (.t 31), none⟩]) (
    .seq (
    .reg [
      ⟨some 33, .mov (.t 5), none⟩,
      ⟨some 34, .call 172 [.t 33], none⟩,
      ⟨some 32, .mov (.t 34), none⟩,
      ⟨some 35, .ext 0 (.t 32), none⟩,
      ⟨some 36, .ext 1 (.t 32), none⟩,
      ⟨some 6, .mov (.t 35), none⟩,
      ⟨some 7, .mov (.t 36), none⟩]) (
    .seq (
    .reg [
      ⟨some 37, .mov (.t 7), none⟩,
      ⟨some 38, .mov (.t 37), none⟩,
      ⟨some 39, .faddr 1 (.t 1), some (38, true)⟩,
      ⟨some 40, .load false 1 (.t 39), some (38, true)⟩,
      ⟨some 41, .mov (.t 6), some (38, true)⟩,
      ⟨some 42, .call 173 [.t 40, .t 41], some (38, true)⟩,
      ⟨some 43, .un .not (.t 42), some (38, true)⟩,
      ⟨some 44, .pick (.t 38) (.t 43) (.k (.val (.bool false))), none⟩,
      ⟨some 45, .mov (.t 44), none⟩,
      ⟨some 46, .faddr 1 (.t 1), some (45, true)⟩,
      ⟨some 47, .load false 1 (.t 46), some (45, true)⟩,
      ⟨some 48, .len (.t 47), some (45, true)⟩,
      ⟨some 49, .bin .lss (.t 48) (.k (.val (.int .i64 4))), some (45, true)⟩,
      ⟨some 50, .pick (.t 45) (.t 49) (.k (.val (.bool false))), none⟩]) (
    .cond (.t 50) (
     .reg [
       ⟨some 51, .faddr 1 (.t 1), none⟩,
       ⟨some 52, .load false 1 (.t 51), none⟩,
       ⟨some 53, .mov (.t 6), none⟩,
       ⟨some 54, .lit 9 1 [.t 53], none⟩,
       ⟨some 55, .app 9 1 16 (.t 52) (.t 54), none⟩,
       ⟨some 56, .faddr 1 (.t 1), none⟩,
       ⟨none, .store 1 (.t 56) (.t 55), none⟩]) (
     .skip)))))) (
   .reg [
     ⟨some 57, .bin .add (.t 28) (.k (.val (.int .i64 1))), none⟩,
     ⟨some 28, .mov (.t 57), none⟩])))))))) (
 ir99_from4)
/-- (loop.example/g00779/impl.Policy).settled -/
def ir99 : PC :=
 .seq (
 .reg [
   ⟨some 1, .box (.t 0), none⟩,
   ⟨some 2, .alloc [.val (.str ⟨#[]⟩), .emp 1, .emp 2], none⟩]) (
 .seq (
 .reg [
   ⟨some 8, .faddr 0 (.t 1), none⟩,
   ⟨none, .store 1 (.t 8) (.k (.val (.str ⟨#[]⟩))), none⟩,
   ⟨some 9, .faddr 1 (.t 1), none⟩,
   ⟨none, .store 1 (.t 9) (.k (.emp 1)), none⟩]) (
 .seq (
 .seq (
 .reg [
   ⟨some 10, .load true 3 (.t 1), none⟩,
   ⟨some 11, .call 170 [.t 10, .k (.val (.str ⟨#[114, 101, 112, 111, 114, 116, 45, 116, 111]⟩))], none⟩,
   ⟨some 3, .mov (.t 11), none⟩]) (
 .seq (
 .reg [
   ⟨some 12, .mov (.t 3), none⟩,
   ⟨some 13, .len (.t 12), none⟩,
   ⟨some 14, .bin .gtr (.t 13) (.k (.val (.int .i64 0))), none⟩,
   ⟨some 15, .mov (.t 14), none⟩,
   ⟨some 16, .mov (.t 3), some (15, true)⟩,
   ⟨some 17, .iaddr 1 (.t 16) (.k (.val (.int .i64 0))), some (15, true)⟩,
   ⟨some 18, .load false 1 (.t 17), some (15, true)⟩,
   ⟨some 19, .call 171 [.t 18], some (15, true)⟩,
   ⟨some 20, .pick (.t 15) (.t 19) (.k (.val (.bool false))), none⟩]) (
 .cond (.t 20) (
  .reg [
    ⟨some 21, .mov (.t 3), none⟩,
    ⟨some 22, .iaddr 1 (.t 21) (.k (.val (.int .i64 0))), none⟩,
    ⟨some 23, .load false 1 (.t 22), none⟩,
    ⟨some 24, .faddr 0 (.t 1), none⟩,
    ⟨none, .store 1 (.t 24) (.t 23), none⟩]) (
  .skip)))) (
 ir99_from3)))
theorem ok99 : chkFn Tryz.prog 99 ir99 1 [.c 2 true 3] = true := by kernel_rfl

/-- loop.example/g00779/impl.PolicyOK$1 -/
def ir98 : PC :=
 .seq (
 .reg [
   ⟨some 2, .box (.t 0), none⟩,
   ⟨some 3, .mov (.k (.val (.bool false))), none⟩]) (
 .seq (
 .reg [
   ⟨some 4, .faddr 0 (.t 2), none⟩,
   ⟨some 5, .load false 1 (.t 4), none⟩,
   ⟨some 6, .faddr 0 (.t 1), none⟩,
   ⟨some 7, .load false 1 (.t 6), none⟩,
   ⟨some 8, .bin .eql (.t 5) (.t 7), none⟩,
   ⟨some 3, .mov (.t 8), none⟩]) (
 .ret))
theorem ok98 : chkFn Tryz.prog 98 ir98 2 [.t 3] = true := by kernel_rfl

def ir38_from3 : PC :=
 .seq (
 .reg [
   ⟨some 30, .load true 3 (.t 1), none⟩,
   ⟨some 31, .call 99 [.t 30], none⟩,
   ⟨some 5, .alloc [.val (.str ⟨#[]⟩), .emp 1, .emp 2], none⟩,
   ⟨none, .store 3 (.t 5) (.t 31), none⟩]) (
 .seq (
 .reg [
   ⟨some 32, .faddr 0 (.t 5), none⟩,
   ⟨some 33, .load false 1 (.t 32), none⟩,
   ⟨some 34, .faddr 0 (.t 1), none⟩,
   ⟨some 35, .load false 1 (.t 34), none⟩,
   ⟨some 36, .bin .eql (.t 33) (.t 35), none⟩,
   ⟨some 37, .mov (.t 36), none⟩,
   ⟨some 38, .faddr 1 (.t 5), some (37, true)⟩,
   ⟨some 39, .load false 1 (.t 38), some (37, true)⟩,
   ⟨some 40, .faddr 1 (.t 1), some (37, true)⟩,
   ⟨some 41, .load false 1 (.t 40), some (37, true)⟩,
   ⟨some 42, .call 100 [.t 39, .t 41], some (37, true)⟩,
   ⟨some 43, .pick (.t 37) (.t 42) (.k (.val (.bool false))), none⟩,
   ⟨some 2, .mov (.t 43), none⟩]) (
 .ret))
/-- loop.example/g00779/impl.PolicyOK -/
def ir38 : PC :=
 .seq (
 .reg [
   ⟨some 1, .box (.t 0), none⟩,
   ⟨some 2, .mov (.k (.val (.bool false))), none⟩]) (
 .seq (
 .seq (
 .reg [
   ⟨some 6, .faddr 2 (.t 1), none⟩,
   ⟨some 7, .load false 1 (.t 6), none⟩,
   ⟨some 8, .len (.t 7), none⟩,
   ⟨some 9, .bin .gtr (.t 8) (.k (.val (.int .i64 8))), none⟩]) (
 .cond (.t 9) (
  .seq (
  .reg [
    ⟨some 2, .mov (.k (.val (.bool false))), none⟩]) (
  .ret)) (
  .skip))) (
 .seq (
 .seq (
 .reg [
   ⟨some 10, .faddr 2 (.t 1), none⟩,
   ⟨some 11, .load false 1 (.t 10), none⟩,
   ⟨some 12, .len (.t 11), none⟩,
   ⟨some 13, .mov (.k (.val (.int .i64 0))), none⟩]) (
 .block 0 (
  .loop (.ghost (
   .seq (
   .reg [
     ⟨some 14, .bin .lss (.t 13) (.t 12), none⟩]) (
   .seq (
   .cond (.t 14) (
    .skip) (
    .exit 0)) (
   .seq (
   .block 1 (
    .seq (
    .reg [
      ⟨some 15, .mov (.t 13), none⟩,
      ⟨some 16, .iaddr 2 (.t 11) (.t 13), none⟩,
      ⟨some 17, .load true 2 (.t 16), none⟩,
      ⟨some 4, .alloc [.val (.str ⟨#[]⟩), .emp 1], none⟩,
      ⟨some 3, .mov (.t 15), none⟩,
      ⟨none, .store 2 (.t 4) (.t 17), none⟩]) (
    .seq (
    .reg [
      ⟨some 18, .load true 2 (.t 4), none⟩,
      ⟨some 19, .call 96 [.t 18], none⟩,
      ⟨some 20, .un .not (.t 19), none⟩,
      ⟨some 21, .mov (.t 20), none⟩,
      ⟨some 22, .faddr 2 (.t 1), some (21, false)⟩,
      ⟨some 23, .load false 1 (.t 22), some (21, false)⟩,
      ⟨some 24, .mov (.t 3), some (21, false)⟩,
      ⟨some 25, .slc 2 (.t 23) none (some (.t 24)), some (21, false)⟩,
      ⟨some 26, .mkfn 98 [.t 4], some (21, false)⟩,
      ⟨some 27, .call 97 [.t 25, .t 26], some (21, false)⟩,
      ⟨some 28, .pick (.t 21) (.k (.val (.bool true))) (.t 27), none⟩]) (
    .cond (.t 28) (
     .seq (
     .reg [
       ⟨some 2, .mov (.k (.val (.bool false))), none⟩]) (
     .ret)) (
     .skip))))) (
   .reg [
     ⟨some 29, .bin .add (.t 13) (.k (.val (.int .i64 1))), none⟩,
     ⟨some 13, .mov (.t 29), none⟩])))))))) (
 ir38_from3)))
theorem ok38 : chkFn Tryz.prog 38 ir38 1 [.t 2] = true := by kernel_rfl

/-- loop.example/g00779/impl.GroupFor -/
def ir53 : PC :=
 .seq (
 .reg [
   ⟨some 1, .box (.t 0), none⟩,
   ⟨some 2, .mov (.k (.val (.str ⟨#[]⟩))), none⟩,
   ⟨some 3, .mov (.k (.val (.int .i64 0))), none⟩]) (
 .seq (
 .block 0 (
  .seq (
  .reg [
    ⟨some 5, .load true 3 (.t 1), none⟩,
    ⟨some 6, .call 38 [.t 5], none⟩,
    ⟨some 7, .un .not (.t 6), none⟩,
    ⟨some 4, .mov (.t 7), none⟩]) (
  .cond (.t 4) (
   .seq (
   .reg [
     ⟨some 2, .mov (.k (.val (.str ⟨#[]⟩))), none⟩,
     ⟨some 3, .mov (.k (.val (.int .i64 1))), none⟩]) (
   .ret)) (
   .seq (
   .reg [
     ⟨some 9, .faddr 0 (.t 1), none⟩,
     ⟨some 10, .load false 1 (.t 9), none⟩,
     ⟨some 11, .bin .neq (.t 10) (.k (.val (.str ⟨#[]⟩))), none⟩,
     ⟨some 8, .mov (.t 11), none⟩]) (
   .cond (.t 8) (
    .seq (
    .reg [
      ⟨some 12, .faddr 0 (.t 1), none⟩,
      ⟨some 13, .load false 1 (.t 12), none⟩,
      ⟨some 2, .mov (.t 13), none⟩,
      ⟨some 3, .mov (.k (.val (.int .i64 0))), none⟩]) (
    .ret)) (
    .seq (
    .reg [
      ⟨some 15, .faddr 1 (.t 1), none⟩,
      ⟨some 16, .load false 1 (.t 15), none⟩,
      ⟨some 17, .len (.t 16), none⟩,
      ⟨some 18, .bin .gtr (.t 17) (.k (.val (.int .i64 0))), none⟩,
      ⟨some 14, .mov (.t 18), none⟩]) (
    .cond (.t 14) (
     .seq (
     .reg [
       ⟨some 2, .mov (.k (.val (.str ⟨#[117, 114, 105]⟩))), none⟩,
       ⟨some 3, .mov (.k (.val (.int .i64 0))), none⟩]) (
     .ret)) (
     .skip)))))))) (
 .seq (
 .reg [
   ⟨some 2, .mov (.k (.val (.str ⟨#[]⟩))), none⟩,
   ⟨some 3, .mov (.k (.val (.int .i64 5))), none⟩]) (
 .ret)))
theorem ok53 : chkFn Tryz.prog 53 ir53 1 [.t 2, .t 3] = true := by kernel_rfl

end Go.Proofs
end
