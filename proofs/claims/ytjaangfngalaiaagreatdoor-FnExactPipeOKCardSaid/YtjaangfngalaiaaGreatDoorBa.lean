/- Ba: merged out of IRs, IRt, IRw, IRx, IRy, IRp, IRq, IRu, IRm, IRn, IRee. -/
import Derived.Test.YtjaangfngalaiaaGreatDoorPWv
import Derived.Test.YtjaangfngalaiaaGreatDoorChecked
import Derived.KernelRfl

/- Functions of the seat as data. MADE BY PROGRAM (print_ir.py). -/
section
set_option maxRecDepth 100000
namespace Go.Proofs
open Go.PW

/-- loop.example/g00779/spec.l01In -/
def ir56 : PC :=
 .seq (
 .reg [
   ⟨some 6, .mov (.k (.val (.bool false))), none⟩]) (
 .seq (
 .reg [
   ⟨some 7, .mov (.t 0), none⟩,
   ⟨some 8, .mov (.t 1), none⟩,
   ⟨some 9, .bin .geq (.t 7) (.t 8), none⟩,
   ⟨some 10, .mov (.t 9), none⟩,
   ⟨some 11, .mov (.t 0), some (10, true)⟩,
   ⟨some 12, .mov (.t 2), some (10, true)⟩,
   ⟨some 13, .bin .leq (.t 11) (.t 12), some (10, true)⟩,
   ⟨some 14, .pick (.t 10) (.t 13) (.k (.val (.bool false))), none⟩,
   ⟨some 6, .mov (.t 14), none⟩]) (
 .ret))
theorem ok56 : chkFn Tryz.prog 56 ir56 3 [.t 6] = true := by kernel_rfl

/-- loop.example/g00779/spec.l01Find -/
def ir177 : PC :=
 .seq (
 .reg [
   ⟨some 4, .mov (.k (.val (.int .i64 0))), none⟩]) (
 .seq (
 .seq (
 .reg [
   ⟨some 5, .mov (.k (.val (.int .i64 0))), none⟩]) (
 .block 0 (
  .loop (.ghost (
   .seq (
   .seq (
   .reg [
     ⟨some 6, .mov (.t 5), none⟩,
     ⟨some 7, .mov (.t 0), none⟩,
     ⟨some 8, .lens (.t 7), none⟩,
     ⟨some 9, .bin .lss (.t 6) (.t 8), none⟩]) (
   .cond (.t 9) (
    .skip) (
    .exit 0))) (
   .seq (
   .block 1 (
    .seq (
    .reg [
      ⟨some 12, .mov (.t 0), none⟩,
      ⟨some 13, .mov (.t 5), none⟩,
      ⟨some 14, .idx (.t 12) (.t 13), none⟩,
      ⟨some 15, .mov (.t 1), none⟩,
      ⟨some 16, .bin .eql (.t 14) (.t 15), none⟩]) (
    .cond (.t 16) (
     .seq (
     .reg [
       ⟨some 17, .mov (.t 5), none⟩,
       ⟨some 4, .mov (.t 17), none⟩]) (
     .ret)) (
     .skip)))) (
   .reg [
     ⟨some 10, .mov (.t 5), none⟩,
     ⟨some 11, .bin .add (.t 10) (.k (.val (.int .i64 1))), none⟩,
     ⟨some 5, .mov (.t 11), none⟩]))))))) (
 .seq (
 .reg [
   ⟨some 18, .mov (.t 0), none⟩,
   ⟨some 19, .lens (.t 18), none⟩,
   ⟨some 4, .mov (.t 19), none⟩]) (
 .ret)))
theorem ok177 : chkFn Tryz.prog 177 ir177 2 [.t 4] = true := by kernel_rfl

/-- loop.example/g00779/spec.l01Lower -/
def ir178 : PC :=
 .seq (
 .reg [
   ⟨some 2, .mov (.k (.val (.str ⟨#[]⟩))), none⟩]) (
 .seq (
 .reg [
   ⟨some 6, .lit 5 1 [], none⟩,
   ⟨some 3, .mov (.t 6), none⟩]) (
 .seq (
 .seq (
 .reg [
   ⟨some 4, .mov (.k (.val (.int .i64 0))), none⟩]) (
 .block 0 (
  .loop (.ghost (
   .seq (
   .seq (
   .reg [
     ⟨some 7, .mov (.t 4), none⟩,
     ⟨some 8, .mov (.t 0), none⟩,
     ⟨some 9, .lens (.t 8), none⟩,
     ⟨some 10, .bin .lss (.t 7) (.t 9), none⟩]) (
   .cond (.t 10) (
    .skip) (
    .exit 0))) (
   .seq (
   .block 1 (
    .seq (
    .reg [
      ⟨some 13, .mov (.t 0), none⟩,
      ⟨some 14, .mov (.t 4), none⟩,
      ⟨some 15, .idx (.t 13) (.t 14), none⟩,
      ⟨some 5, .mov (.t 15), none⟩]) (
    .seq (
    .seq (
    .reg [
      ⟨some 16, .mov (.t 5), none⟩,
      ⟨some 17, .bin .geq (.t 16) (.k (.val (.int .u8 65))), none⟩,
      ⟨some 18, .mov (.t 17), none⟩,
      ⟨some 19, .mov (.t 5), some (18, true)⟩,
      ⟨some 20, .bin .leq (.t 19) (.k (.val (.int .u8 90))), some (18, true)⟩,
      ⟨some 21, .pick (.t 18) (.t 20) (.k (.val (.bool false))), none⟩]) (
    .cond (.t 21) (
     .reg [
       ⟨some 22, .mov (.t 5), none⟩,
       ⟨some 23, .bin .add (.t 22) (.k (.val (.int .u8 32))), none⟩,
       ⟨some 5, .mov (.t 23), none⟩]) (
     .skip))) (
    .reg [
      ⟨some 24, .mov (.t 3), none⟩,
      ⟨some 25, .mov (.t 5), none⟩,
      ⟨some 26, .lit 5 1 [.t 25], none⟩,
      ⟨some 27, .app 5 1 1 (.t 24) (.t 26), none⟩,
      ⟨some 3, .mov (.t 27), none⟩])))) (
   .reg [
     ⟨some 11, .mov (.t 4), none⟩,
     ⟨some 12, .bin .add (.t 11) (.k (.val (.int .i64 1))), none⟩,
     ⟨some 4, .mov (.t 12), none⟩]))))))) (
 .seq (
 .reg [
   ⟨some 28, .mov (.t 3), none⟩,
   ⟨some 29, .tostr (.t 28), none⟩,
   ⟨some 2, .mov (.t 29), none⟩]) (
 .ret))))
theorem ok178 : chkFn Tryz.prog 178 ir178 1 [.t 2] = true := by kernel_rfl

/-- loop.example/g00779/spec.l01Only -/
def ir195 : PC :=
 .seq (
 .reg [
   ⟨some 4, .mov (.k (.val (.bool false))), none⟩]) (
 .seq (
 .seq (
 .reg [
   ⟨some 5, .mov (.k (.val (.int .i64 0))), none⟩]) (
 .block 0 (
  .loop (.ghost (
   .seq (
   .seq (
   .reg [
     ⟨some 6, .mov (.t 5), none⟩,
     ⟨some 7, .mov (.t 0), none⟩,
     ⟨some 8, .lens (.t 7), none⟩,
     ⟨some 9, .bin .lss (.t 6) (.t 8), none⟩]) (
   .cond (.t 9) (
    .skip) (
    .exit 0))) (
   .seq (
   .block 1 (
    .seq (
    .reg [
      ⟨some 12, .mov (.t 0), none⟩,
      ⟨some 13, .mov (.t 5), none⟩,
      ⟨some 14, .idx (.t 12) (.t 13), none⟩,
      ⟨some 15, .bin .lss (.t 14) (.k (.val (.int .u8 33))), none⟩,
      ⟨some 16, .mov (.t 15), none⟩,
      ⟨some 17, .mov (.t 0), some (16, false)⟩,
      ⟨some 18, .mov (.t 5), some (16, false)⟩,
      ⟨some 19, .idx (.t 17) (.t 18), some (16, false)⟩,
      ⟨some 20, .bin .gtr (.t 19) (.k (.val (.int .u8 126))), some (16, false)⟩,
      ⟨some 21, .pick (.t 16) (.k (.val (.bool true))) (.t 20), none⟩,
      ⟨some 22, .mov (.t 21), none⟩,
      ⟨some 23, .mov (.t 1), some (22, false)⟩,
      ⟨some 24, .mov (.t 0), some (22, false)⟩,
      ⟨some 25, .mov (.t 5), some (22, false)⟩,
      ⟨some 26, .idx (.t 24) (.t 25), some (22, false)⟩,
      ⟨some 27, .call 177 [.t 23, .t 26], some (22, false)⟩,
      ⟨some 28, .mov (.t 1), some (22, false)⟩,
      ⟨some 29, .lens (.t 28), some (22, false)⟩,
      ⟨some 30, .bin .lss (.t 27) (.t 29), some (22, false)⟩,
      ⟨some 31, .pick (.t 22) (.k (.val (.bool true))) (.t 30), none⟩]) (
    .cond (.t 31) (
     .seq (
     .reg [
       ⟨some 4, .mov (.k (.val (.bool false))), none⟩]) (
     .ret)) (
     .skip)))) (
   .reg [
     ⟨some 10, .mov (.t 5), none⟩,
     ⟨some 11, .bin .add (.t 10) (.k (.val (.int .i64 1))), none⟩,
     ⟨some 5, .mov (.t 11), none⟩]))))))) (
 .seq (
 .reg [
   ⟨some 4, .mov (.k (.val (.bool true))), none⟩]) (
 .ret)))
theorem ok195 : chkFn Tryz.prog 195 ir195 2 [.t 4] = true := by kernel_rfl

/-- loop.example/g00779/spec.l01Web -/
def ir162 : PC :=
 .seq (
 .reg [
   ⟨some 2, .mov (.k (.val (.bool false))), none⟩]) (
 .seq (
 .reg [
   ⟨some 3, .mov (.t 0), none⟩,
   ⟨some 4, .bin .eql (.t 3) (.k (.val (.str ⟨#[104, 116, 116, 112]⟩))), none⟩,
   ⟨some 5, .mov (.t 4), none⟩,
   ⟨some 6, .mov (.t 0), some (5, false)⟩,
   ⟨some 7, .bin .eql (.t 6) (.k (.val (.str ⟨#[104, 116, 116, 112, 115]⟩))), some (5, false)⟩,
   ⟨some 8, .pick (.t 5) (.k (.val (.bool true))) (.t 7), none⟩,
   ⟨some 2, .mov (.t 8), none⟩]) (
 .ret))
theorem ok162 : chkFn Tryz.prog 162 ir162 1 [.t 2] = true := by kernel_rfl

/-- loop.example/g00779/spec.l01Scheme -/
def ir194 : PC :=
 .seq (
 .reg [
   ⟨some 2, .mov (.k (.val (.bool false))), none⟩]) (
 .seq (
 .seq (
 .reg [
   ⟨some 5, .mov (.t 0), none⟩,
   ⟨some 6, .lens (.t 5), none⟩,
   ⟨some 7, .call 56 [.t 6, .k (.val (.int .i64 1)), .k (.val (.int .i64 12))], none⟩,
   ⟨some 8, .un .not (.t 7), none⟩]) (
 .cond (.t 8) (
  .seq (
  .reg [
    ⟨some 2, .mov (.k (.val (.bool false))), none⟩]) (
  .ret)) (
  .skip))) (
 .seq (
 .seq (
 .reg [
   ⟨some 3, .mov (.k (.val (.int .i64 0))), none⟩]) (
 .block 0 (
  .loop (.ghost (
   .seq (
   .seq (
   .reg [
     ⟨some 9, .mov (.t 3), none⟩,
     ⟨some 10, .mov (.t 0), none⟩,
     ⟨some 11, .lens (.t 10), none⟩,
     ⟨some 12, .bin .lss (.t 9) (.t 11), none⟩]) (
   .cond (.t 12) (
    .skip) (
    .exit 0))) (
   .seq (
   .block 1 (
    .seq (
    .reg [
      ⟨some 15, .mov (.t 0), none⟩,
      ⟨some 16, .mov (.t 3), none⟩,
      ⟨some 17, .idx (.t 15) (.t 16), none⟩,
      ⟨some 18, .bin .geq (.t 17) (.k (.val (.int .u8 97))), none⟩,
      ⟨some 19, .mov (.t 18), none⟩,
      ⟨some 20, .mov (.t 0), some (19, true)⟩,
      ⟨some 21, .mov (.t 3), some (19, true)⟩,
      ⟨some 22, .idx (.t 20) (.t 21), some (19, true)⟩,
      ⟨some 23, .bin .leq (.t 22) (.k (.val (.int .u8 122))), some (19, true)⟩,
      ⟨some 24, .pick (.t 19) (.t 23) (.k (.val (.bool false))), none⟩,
      ⟨some 4, .mov (.t 24), none⟩]) (
    .seq (
    .reg [
      ⟨some 25, .mov (.t 4), none⟩,
      ⟨some 26, .un .not (.t 25), none⟩,
      ⟨some 27, .mov (.t 26), none⟩,
      ⟨some 28, .mov (.t 3), some (27, true)⟩,
      ⟨some 29, .bin .eql (.t 28) (.k (.val (.int .i64 0))), some (27, true)⟩,
      ⟨some 30, .mov (.t 29), some (27, true)⟩,
      ⟨some 31, .mov (.t 0), some (30, false)⟩,
      ⟨some 32, .mov (.t 3), some (30, false)⟩,
      ⟨some 33, .idx (.t 31) (.t 32), some (30, false)⟩,
      ⟨some 34, .call 144 [.t 33], some (30, false)⟩,
      ⟨some 35, .un .not (.t 34), some (30, false)⟩,
      ⟨some 36, .mov (.t 35), some (30, false)⟩,
      ⟨some 37, .mov (.t 0), some (36, true)⟩,
      ⟨some 38, .mov (.t 3), some (36, true)⟩,
      ⟨some 39, .idx (.t 37) (.t 38), some (36, true)⟩,
      ⟨some 40, .bin .neq (.t 39) (.k (.val (.int .u8 45))), some (36, true)⟩,
      ⟨some 41, .pick (.t 36) (.t 40) (.k (.val (.bool false))), some (30, false)⟩,
      ⟨some 42, .mov (.t 41), some (30, false)⟩,
      ⟨some 43, .mov (.t 0), some (42, true)⟩,
      ⟨some 44, .mov (.t 3), some (42, true)⟩,
      ⟨some 45, .idx (.t 43) (.t 44), some (42, true)⟩,
      ⟨some 46, .bin .neq (.t 45) (.k (.val (.int .u8 43))), some (42, true)⟩,
      ⟨some 47, .pick (.t 42) (.t 46) (.k (.val (.bool false))), some (30, false)⟩,
      ⟨some 48, .mov (.t 47), some (30, false)⟩,
      ⟨some 49, .mov (.t 0), some (48, true)⟩,
      ⟨some 50, .mov (.t 3), some (48, true)⟩,
      ⟨some 51, .idx (.t 49) (.t 50), some (48, true)⟩,
      ⟨some 52, .bin .neq (.t 51) (.k (.val (.int .u8 46))), some (48, true)⟩,
      ⟨some 53, .pick (.t 48) (.t 52) (.k (.val (.bool false))), some (30, false)⟩,
      ⟨some 54, .pick (.t 30) (.k (.val (.bool true))) (.t 53), some (27, true)⟩,
      ⟨some 55, .pick (.t 27) (.t 54) (.k (.val (.bool false))), none⟩]) (
    .cond (.t 55) (
     .seq (
     .reg [
       ⟨some 2, .mov (.k (.val (.bool false))), none⟩]) (
     .ret)) (
     .skip))))) (
   .reg [
     ⟨some 13, .mov (.t 3), none⟩,
     ⟨some 14, .bin .add (.t 13) (.k (.val (.int .i64 1))), none⟩,
     ⟨some 3, .mov (.t 14), none⟩]))))))) (
 .seq (
 .reg [
   ⟨some 2, .mov (.k (.val (.bool true))), none⟩]) (
 .ret))))
theorem ok194 : chkFn Tryz.prog 194 ir194 1 [.t 2] = true := by kernel_rfl

/-- loop.example/g00779/spec.l01Host -/
def ir196 : PC :=
 .seq (
 .reg [
   ⟨some 2, .mov (.k (.val (.bool false))), none⟩]) (
 .seq (
 .reg [
   ⟨some 3, .mov (.k (.val (.bool true))), none⟩]) (
 .seq (
 .seq (
 .reg [
   ⟨some 4, .mov (.k (.val (.int .i64 0))), none⟩]) (
 .block 0 (
  .loop (.ghost (
   .seq (
   .seq (
   .reg [
     ⟨some 6, .mov (.t 4), none⟩,
     ⟨some 7, .mov (.t 0), none⟩,
     ⟨some 8, .lens (.t 7), none⟩,
     ⟨some 9, .bin .lss (.t 6) (.t 8), none⟩]) (
   .cond (.t 9) (
    .skip) (
    .exit 0))) (
   .seq (
   .block 1 (
    .seq (
    .reg [
      ⟨some 12, .mov (.t 0), none⟩,
      ⟨some 13, .mov (.t 4), none⟩,
      ⟨some 14, .idx (.t 12) (.t 13), none⟩,
      ⟨some 15, .bin .geq (.t 14) (.k (.val (.int .u8 97))), none⟩,
      ⟨some 16, .mov (.t 15), none⟩,
      ⟨some 17, .mov (.t 0), some (16, true)⟩,
      ⟨some 18, .mov (.t 4), some (16, true)⟩,
      ⟨some 19, .idx (.t 17) (.t 18), some (16, true)⟩,
      ⟨some 20, .bin .leq (.t 19) (.k (.val (.int .u8 122))), some (16, true)⟩,
      ⟨some 21, .pick (.t 16) (.t 20) (.k (.val (.bool false))), none⟩,
      ⟨some 22, .mov (.t 21), none⟩,
      ⟨some 23, .mov (.t 0), some (22, false)⟩,
      ⟨some 24, .mov (.t 4), some (22, false)⟩,
      ⟨some 25, .idx (.t 23) (.t 24), some (22, false)⟩,
      ⟨some 26, .call 144 [.t 25], some (22, false)⟩,
      ⟨some 27, .pick (.t 22) (.k (.val (.bool true))) (.t 26), none⟩,
      ⟨some 5, .mov (.t 27), none⟩]) (
    .seq (
    .seq (
    .reg [
      ⟨some 28, .mov (.t 5), none⟩,
      ⟨some 29, .un .not (.t 28), none⟩,
      ⟨some 30, .mov (.t 29), none⟩,
      ⟨some 31, .mov (.t 3), some (30, true)⟩,
      ⟨some 32, .mov (.t 31), some (30, true)⟩,
      ⟨some 33, .mov (.t 0), some (32, false)⟩,
      ⟨some 34, .mov (.t 4), some (32, false)⟩,
      ⟨some 35, .idx (.t 33) (.t 34), some (32, false)⟩,
      ⟨some 36, .bin .neq (.t 35) (.k (.val (.int .u8 45))), some (32, false)⟩,
      ⟨some 37, .mov (.t 36), some (32, false)⟩,
      ⟨some 38, .mov (.t 0), some (37, true)⟩,
      ⟨some 39, .mov (.t 4), some (37, true)⟩,
      ⟨some 40, .idx (.t 38) (.t 39), some (37, true)⟩,
      ⟨some 41, .bin .neq (.t 40) (.k (.val (.int .u8 46))), some (37, true)⟩,
      ⟨some 42, .pick (.t 37) (.t 41) (.k (.val (.bool false))), some (32, false)⟩,
      ⟨some 43, .pick (.t 32) (.k (.val (.bool true))) (.t 42), some (30, true)⟩,
      ⟨some 44, .pick (.t 30) (.t 43) (.k (.val (.bool false))), none⟩]) (
    .cond (.t 44) (
     .seq (
     .reg [
       ⟨some 2, .mov (.k (.val (.bool false))), none⟩]) (
     .ret)) (
     .skip))) (
    .reg [
      ⟨some 45, .mov (.t 5), none⟩,
      ⟨some 46, .un .not (.t 45), none⟩,
      ⟨some 3, .mov (.t 46), none⟩])))) (
   .reg [
     ⟨some 10, .mov (.t 4), none⟩,
     ⟨some 11, .bin .add (.t 10) (.k (.val (.int .i64 1))), none⟩,
     ⟨some 4, .mov (.t 11), none⟩]))))))) (
 .seq (
 .reg [
   ⟨some 47, .mov (.t 3), none⟩,
   ⟨some 48, .un .not (.t 47), none⟩,
   ⟨some 2, .mov (.t 48), none⟩]) (
 .ret))))
theorem ok196 : chkFn Tryz.prog 196 ir196 1 [.t 2] = true := by kernel_rfl

/-- loop.example/g00779/spec.l01Usual -/
def ir181 : PC :=
 .seq (
 .reg [
   ⟨some 2, .mov (.k (.val (.int .i64 0))), none⟩]) (
 .seq (
 .seq (
 .reg [
   ⟨some 3, .mov (.t 0), none⟩,
   ⟨some 4, .bin .eql (.t 3) (.k (.val (.str ⟨#[104, 116, 116, 112]⟩))), none⟩]) (
 .cond (.t 4) (
  .seq (
  .reg [
    ⟨some 2, .mov (.k (.val (.int .i64 80))), none⟩]) (
  .ret)) (
  .skip))) (
 .seq (
 .reg [
   ⟨some 2, .mov (.k (.val (.int .i64 443))), none⟩]) (
 .ret)))
theorem ok181 : chkFn Tryz.prog 181 ir181 1 [.t 2] = true := by kernel_rfl

/-- loop.example/g00779/spec.l00Digit -/
def ir144 : PC :=
 .seq (
 .reg [
   ⟨some 2, .mov (.k (.val (.bool false))), none⟩]) (
 .seq (
 .reg [
   ⟨some 3, .mov (.t 0), none⟩,
   ⟨some 4, .bin .geq (.t 3) (.k (.val (.int .u8 48))), none⟩,
   ⟨some 5, .mov (.t 4), none⟩,
   ⟨some 6, .mov (.t 0), some (5, true)⟩,
   ⟨some 7, .bin .leq (.t 6) (.k (.val (.int .u8 57))), some (5, true)⟩,
   ⟨some 8, .pick (.t 5) (.t 7) (.k (.val (.bool false))), none⟩,
   ⟨some 2, .mov (.t 8), none⟩]) (
 .ret))
theorem ok144 : chkFn Tryz.prog 144 ir144 1 [.t 2] = true := by kernel_rfl

/-- loop.example/g00779/spec.l00Digits -/
def ir197 : PC :=
 .seq (
 .reg [
   ⟨some 2, .mov (.k (.val (.str ⟨#[]⟩))), none⟩]) (
 .seq (
 .seq (
 .reg [
   ⟨some 3, .mov (.t 0), none⟩,
   ⟨some 4, .bin .eql (.t 3) (.k (.val (.int .i64 (-9223372036854775808)))), none⟩]) (
 .cond (.t 4) (
  .seq (
  .reg [
    ⟨some 2, .mov (.k (.val (.str ⟨#[45, 57, 50, 50, 51, 51, 55, 50, 48, 51, 54, 56, 53, 52, 55, 55, 53, 56, 48, 56]⟩))), none⟩]) (
  .ret)) (
  .skip))) (
 .seq (
 .seq (
 .reg [
   ⟨some 5, .mov (.t 0), none⟩,
   ⟨some 6, .bin .lss (.t 5) (.k (.val (.int .i64 0))), none⟩]) (
 .cond (.t 6) (
  .seq (
  .reg [
    ⟨some 7, .mov (.t 0), none⟩,
    ⟨some 8, .un .neg (.t 7), none⟩,
    ⟨some 9, .call 197 [.t 8], none⟩,
    ⟨some 10, .bin .add (.k (.val (.str ⟨#[45]⟩))) (.t 9), none⟩,
    ⟨some 2, .mov (.t 10), none⟩]) (
  .ret)) (
  .skip))) (
 .seq (
 .seq (
 .reg [
   ⟨some 11, .mov (.t 0), none⟩,
   ⟨some 12, .bin .lss (.t 11) (.k (.val (.int .i64 10))), none⟩]) (
 .cond (.t 12) (
  .seq (
  .reg [
    ⟨some 13, .mov (.t 0), none⟩,
    ⟨some 14, .bin .add (.k (.val (.int .i64 48))) (.t 13), none⟩,
    ⟨some 15, .conv .u8 (.t 14), none⟩,
    ⟨some 16, .lit 5 1 [.t 15], none⟩,
    ⟨some 17, .tostr (.t 16), none⟩,
    ⟨some 2, .mov (.t 17), none⟩]) (
  .ret)) (
  .skip))) (
 .seq (
 .draw [
   ⟨some 18, .mov (.t 0), none⟩,
   ⟨some 19, .bin .quo (.t 18) (.k (.val (.int .i64 10))), none⟩,
   ⟨some 20, .call 197 [.t 19], none⟩,
   ⟨some 21, .mov (.t 0), none⟩,
   ⟨some 22, .bin .rem (.t 21) (.k (.val (.int .i64 10))), none⟩,
   ⟨some 23, .bin .add (.k (.val (.int .i64 48))) (.t 22), none⟩,
   ⟨some 24, .conv .u8 (.t 23), none⟩,
   ⟨some 25, .lit 5 1 [.t 24], none⟩,
   ⟨some 26, .tostr (.t 25), none⟩,
   ⟨some 27, .bin .add (.t 20) (.t 26), none⟩] [
   ⟨some 2, .mov (.t 27), none⟩]) (
 .ret)))))
theorem ok197 : chkFn Tryz.prog 197 ir197 1 [.t 2] = true := by kernel_rfl

def ir180_from5 : PC :=
 .seq (
 .seq (
 .reg [
   ⟨some 6, .mov (.k (.val (.int .i64 0))), none⟩]) (
 .block 0 (
  .loop (.ghost (
   .seq (
   .seq (
   .reg [
     ⟨some 39, .mov (.t 6), none⟩,
     ⟨some 40, .mov (.t 0), none⟩,
     ⟨some 41, .lens (.t 40), none⟩,
     ⟨some 42, .bin .lss (.t 39) (.t 41), none⟩]) (
   .cond (.t 42) (
    .skip) (
    .exit 0))) (
   .seq (
   .block 1 (
    .seq (
    .seq (
    .reg [
      ⟨some 45, .mov (.t 0), none⟩,
      ⟨some 46, .mov (.t 6), none⟩,
      ⟨some 47, .idx (.t 45) (.t 46), none⟩,
      ⟨some 48, .bin .lss (.t 47) (.k (.val (.int .u8 48))), none⟩,
      ⟨some 49, .mov (.t 48), none⟩,
      ⟨some 50, .mov (.t 0), some (49, false)⟩,
      ⟨some 51, .mov (.t 6), some (49, false)⟩,
      ⟨some 52, .idx (.t 50) (.t 51), some (49, false)⟩,
      ⟨some 53, .bin .gtr (.t 52) (.k (.val (.int .u8 57))), some (49, false)⟩,
      ⟨some 54, .pick (.t 49) (.k (.val (.bool true))) (.t 53), none⟩]) (
    .cond (.t 54) (
     .seq (
     .reg [
       ⟨some 2, .mov (.k (.val (.int .i64 0))), none⟩,
       ⟨some 3, .mov (.k (.val (.bool false))), none⟩]) (
     .ret)) (
     .skip))) (
    .reg [
      ⟨some 55, .mov (.t 5), none⟩,
      ⟨some 56, .bin .mul (.t 55) (.k (.val (.int .i64 10))), none⟩,
      ⟨some 57, .mov (.t 0), none⟩,
      ⟨some 58, .mov (.t 6), none⟩,
      ⟨some 59, .idx (.t 57) (.t 58), none⟩,
      ⟨some 60, .conv .i64 (.t 59), none⟩,
      ⟨some 61, .bin .add (.t 56) (.t 60), none⟩,
      ⟨some 62, .bin .sub (.t 61) (.k (.val (.int .i64 48))), none⟩,
      ⟨some 5, .mov (.t 62), none⟩]))) (
   .reg [
     ⟨some 43, .mov (.t 6), none⟩,
     ⟨some 44, .bin .add (.t 43) (.k (.val (.int .i64 1))), none⟩,
     ⟨some 6, .mov (.t 44), none⟩]))))))) (
 .seq (
 .reg [
   ⟨some 63, .mov (.t 4), none⟩,
   ⟨some 64, .mov (.t 5), none⟩,
   ⟨some 65, .bin .mul (.t 63) (.t 64), none⟩,
   ⟨some 2, .mov (.t 65), none⟩,
   ⟨some 3, .mov (.k (.val (.bool true))), none⟩]) (
 .ret))
def ir180_from3 : PC :=
 .seq (
 .seq (
 .reg [
   ⟨some 17, .mov (.t 0), none⟩,
   ⟨some 18, .lens (.t 17), none⟩,
   ⟨some 19, .bin .eql (.t 18) (.k (.val (.int .i64 0))), none⟩,
   ⟨some 20, .mov (.t 19), none⟩,
   ⟨some 21, .mov (.t 0), some (20, false)⟩,
   ⟨some 22, .lens (.t 21), some (20, false)⟩,
   ⟨some 23, .bin .gtr (.t 22) (.k (.val (.int .i64 18))), some (20, false)⟩,
   ⟨some 24, .pick (.t 20) (.k (.val (.bool true))) (.t 23), none⟩,
   ⟨some 25, .mov (.t 24), none⟩,
   ⟨some 26, .mov (.t 0), some (25, false)⟩,
   ⟨some 27, .idx (.t 26) (.k (.val (.int .i64 0))), some (25, false)⟩,
   ⟨some 28, .bin .eql (.t 27) (.k (.val (.int .u8 48))), some (25, false)⟩,
   ⟨some 29, .mov (.t 28), some (25, false)⟩,
   ⟨some 30, .mov (.t 0), some (29, true)⟩,
   ⟨some 31, .lens (.t 30), some (29, true)⟩,
   ⟨some 32, .bin .gtr (.t 31) (.k (.val (.int .i64 1))), some (29, true)⟩,
   ⟨some 33, .mov (.t 32), some (29, true)⟩,
   ⟨some 34, .mov (.t 4), some (33, false)⟩,
   ⟨some 35, .bin .lss (.t 34) (.k (.val (.int .i64 0))), some (33, false)⟩,
   ⟨some 36, .pick (.t 33) (.k (.val (.bool true))) (.t 35), some (29, true)⟩,
   ⟨some 37, .pick (.t 29) (.t 36) (.k (.val (.bool false))), some (25, false)⟩,
   ⟨some 38, .pick (.t 25) (.k (.val (.bool true))) (.t 37), none⟩]) (
 .cond (.t 38) (
  .seq (
  .reg [
    ⟨some 2, .mov (.k (.val (.int .i64 0))), none⟩,
    ⟨some 3, .mov (.k (.val (.bool false))), none⟩]) (
  .ret)) (
  .skip))) (
 .seq (
 .reg [
   ⟨some 5, .mov (.k (.val (.int .i64 0))), none⟩]) (
 ir180_from5))
/-- loop.example/g00779/spec.l00Number -/
def ir180 : PC :=
 .seq (
 .reg [
   ⟨some 2, .mov (.k (.val (.int .i64 0))), none⟩,
   ⟨some 3, .mov (.k (.val (.bool false))), none⟩]) (
 .seq (
 .reg [
   ⟨some 4, .mov (.k (.val (.int .i64 1))), none⟩]) (
 .seq (
 .seq (
 .reg [
   ⟨some 7, .mov (.t 0), none⟩,
   ⟨some 8, .lens (.t 7), none⟩,
   ⟨some 9, .bin .gtr (.t 8) (.k (.val (.int .i64 0))), none⟩,
   ⟨some 10, .mov (.t 9), none⟩,
   ⟨some 11, .mov (.t 0), some (10, true)⟩,
   ⟨some 12, .idx (.t 11) (.k (.val (.int .i64 0))), some (10, true)⟩,
   ⟨some 13, .bin .eql (.t 12) (.k (.val (.int .u8 45))), some (10, true)⟩,
   ⟨some 14, .pick (.t 10) (.t 13) (.k (.val (.bool false))), none⟩]) (
 .cond (.t 14) (
  .seq (
  .reg [
    ⟨some 4, .mov (.k (.val (.int .i64 (-1)))), none⟩]) (
  .reg [
    ⟨some 15, .mov (.t 0), none⟩,
    ⟨some 16, .slc 0 (.t 15) (some (.k (.val (.int .i64 1)))) none, none⟩,
    ⟨some 0, .mov (.t 16), none⟩])) (
  .skip))) (
 ir180_from3)))
theorem ok180 : chkFn Tryz.prog 180 ir180 1 [.t 2, .t 3] = true := by kernel_rfl

/-- loop.example/g00779/spec.l01Site -/
def ir182 : PC :=
 .seq (
 .reg [
   ⟨some 1, .box (.t 0), none⟩,
   ⟨some 2, .mov (.k (.val (.str ⟨#[]⟩))), none⟩]) (
 .seq (
 .reg [
   ⟨some 4, .faddr 0 (.t 1), none⟩,
   ⟨some 5, .load false 1 (.t 4), none⟩,
   ⟨some 6, .bin .add (.t 5) (.k (.val (.str ⟨#[58, 47, 47]⟩))), none⟩,
   ⟨some 7, .faddr 2 (.t 1), none⟩,
   ⟨some 8, .load false 1 (.t 7), none⟩,
   ⟨some 9, .bin .add (.t 6) (.t 8), none⟩,
   ⟨some 3, .mov (.t 9), none⟩]) (
 .seq (
 .seq (
 .reg [
   ⟨some 10, .faddr 3 (.t 1), none⟩,
   ⟨some 11, .load false 1 (.t 10), none⟩,
   ⟨some 12, .bin .gtr (.t 11) (.k (.val (.int .i64 0))), none⟩]) (
 .cond (.t 12) (
  .reg [
    ⟨some 13, .mov (.t 3), none⟩,
    ⟨some 14, .faddr 3 (.t 1), none⟩,
    ⟨some 15, .load false 1 (.t 14), none⟩,
    ⟨some 16, .call 197 [.t 15], none⟩,
    ⟨some 17, .bin .add (.k (.val (.str ⟨#[58]⟩))) (.t 16), none⟩,
    ⟨some 18, .bin .add (.t 13) (.t 17), none⟩,
    ⟨some 3, .mov (.t 18), none⟩]) (
  .skip))) (
 .seq (
 .reg [
   ⟨some 19, .mov (.t 3), none⟩,
   ⟨some 2, .mov (.t 19), none⟩]) (
 .ret))))
theorem ok182 : chkFn Tryz.prog 182 ir182 1 [.t 2] = true := by kernel_rfl

def ir163_from4 : PC :=
 .seq (
 .draw [
   ⟨some 25, .mov (.t 3), none⟩,
   ⟨some 26, .faddr 2 (.t 1), none⟩,
   ⟨some 27, .load false 1 (.t 26), none⟩,
   ⟨some 28, .faddr 3 (.t 1), none⟩,
   ⟨some 29, .load false 1 (.t 28), none⟩,
   ⟨some 30, .build [.val (.str ⟨#[]⟩), .val (.str ⟨#[]⟩), .val (.str ⟨#[]⟩), .val (.int .i64 0), .val (.str ⟨#[]⟩), .val (.str ⟨#[]⟩), .val (.str ⟨#[]⟩), .val (.bool false), .val (.bool false)] [(2, 1, .t 27), (3, 1, .t 29)], none⟩,
   ⟨some 31, .call 182 [.t 30], none⟩,
   ⟨some 32, .slc 0 (.t 31) (some (.k (.val (.int .i64 3)))) none, none⟩,
   ⟨some 33, .faddr 4 (.t 1), none⟩,
   ⟨some 34, .load false 1 (.t 33), none⟩,
   ⟨some 35, .bin .add (.t 32) (.t 34), none⟩,
   ⟨some 36, .bin .add (.t 25) (.t 35), none⟩] [
   ⟨some 3, .mov (.t 36), none⟩]) (
 .seq (
 .seq (
 .reg [
   ⟨some 37, .faddr 7 (.t 1), none⟩,
   ⟨some 38, .load false 1 (.t 37), none⟩]) (
 .cond (.t 38) (
  .reg [
    ⟨some 39, .mov (.t 3), none⟩,
    ⟨some 40, .faddr 5 (.t 1), none⟩,
    ⟨some 41, .load false 1 (.t 40), none⟩,
    ⟨some 42, .bin .add (.k (.val (.str ⟨#[63]⟩))) (.t 41), none⟩,
    ⟨some 43, .bin .add (.t 39) (.t 42), none⟩,
    ⟨some 3, .mov (.t 43), none⟩]) (
  .skip))) (
 .seq (
 .seq (
 .reg [
   ⟨some 44, .faddr 8 (.t 1), none⟩,
   ⟨some 45, .load false 1 (.t 44), none⟩]) (
 .cond (.t 45) (
  .reg [
    ⟨some 46, .mov (.t 3), none⟩,
    ⟨some 47, .faddr 6 (.t 1), none⟩,
    ⟨some 48, .load false 1 (.t 47), none⟩,
    ⟨some 49, .bin .add (.k (.val (.str ⟨#[35]⟩))) (.t 48), none⟩,
    ⟨some 50, .bin .add (.t 46) (.t 49), none⟩,
    ⟨some 3, .mov (.t 50), none⟩]) (
  .skip))) (
 .seq (
 .reg [
   ⟨some 51, .mov (.t 3), none⟩,
   ⟨some 2, .mov (.t 51), none⟩]) (
 .ret))))
/-- loop.example/g00779/spec.l01Text -/
def ir163 : PC :=
 .seq (
 .reg [
   ⟨some 1, .box (.t 0), none⟩,
   ⟨some 2, .mov (.k (.val (.str ⟨#[]⟩))), none⟩]) (
 .seq (
 .seq (
 .reg [
   ⟨some 4, .faddr 0 (.t 1), none⟩,
   ⟨some 5, .load false 1 (.t 4), none⟩,
   ⟨some 6, .call 162 [.t 5], none⟩,
   ⟨some 7, .un .not (.t 6), none⟩]) (
 .cond (.t 7) (
  .seq (
  .reg [
    ⟨some 8, .faddr 0 (.t 1), none⟩,
    ⟨some 9, .load false 1 (.t 8), none⟩,
    ⟨some 10, .bin .add (.t 9) (.k (.val (.str ⟨#[58]⟩))), none⟩,
    ⟨some 11, .faddr 4 (.t 1), none⟩,
    ⟨some 12, .load false 1 (.t 11), none⟩,
    ⟨some 13, .bin .add (.t 10) (.t 12), none⟩,
    ⟨some 2, .mov (.t 13), none⟩]) (
  .ret)) (
  .skip))) (
 .seq (
 .reg [
   ⟨some 14, .faddr 0 (.t 1), none⟩,
   ⟨some 15, .load false 1 (.t 14), none⟩,
   ⟨some 16, .bin .add (.t 15) (.k (.val (.str ⟨#[58, 47, 47]⟩))), none⟩,
   ⟨some 3, .mov (.t 16), none⟩]) (
 .seq (
 .seq (
 .reg [
   ⟨some 17, .faddr 1 (.t 1), none⟩,
   ⟨some 18, .load false 1 (.t 17), none⟩,
   ⟨some 19, .bin .neq (.t 18) (.k (.val (.str ⟨#[]⟩))), none⟩]) (
 .cond (.t 19) (
  .reg [
    ⟨some 20, .mov (.t 3), none⟩,
    ⟨some 21, .faddr 1 (.t 1), none⟩,
    ⟨some 22, .load false 1 (.t 21), none⟩,
    ⟨some 23, .bin .add (.t 22) (.k (.val (.str ⟨#[64]⟩))), none⟩,
    ⟨some 24, .bin .add (.t 20) (.t 23), none⟩,
    ⟨some 3, .mov (.t 24), none⟩]) (
  .skip))) (
 ir163_from4))))
theorem ok163 : chkFn Tryz.prog 163 ir163 1 [.t 2] = true := by kernel_rfl

def ir179_ops1_43 : List POper :=
  [
  ⟨some 46, .load true 9 (.t 1), some (45, false)⟩,
  ⟨some 47, .call 163 [.t 46], some (45, false)⟩,
  ⟨some 48, .lens (.t 47), some (45, false)⟩,
  ⟨some 49, .bin .gtr (.t 48) (.k (.val (.int .i64 100))), some (45, false)⟩,
  ⟨some 50, .pick (.t 45) (.k (.val (.bool true))) (.t 49), none⟩]
def ir179_ops1_37 : List POper :=
  ⟨some 40, .faddr 6 (.t 1), some (39, false)⟩ ::
  ⟨some 41, .load false 1 (.t 40), some (39, false)⟩ ::
  ⟨some 42, .call 195 [.t 41, .k (.val (.str ⟨#[]⟩))], some (39, false)⟩ ::
  ⟨some 43, .un .not (.t 42), some (39, false)⟩ ::
  ⟨some 44, .pick (.t 39) (.k (.val (.bool true))) (.t 43), none⟩ ::
  ⟨some 45, .mov (.t 44), none⟩ ::
  ir179_ops1_43
def ir179_ops1_31 : List POper :=
  ⟨some 34, .faddr 5 (.t 1), some (33, false)⟩ ::
  ⟨some 35, .load false 1 (.t 34), some (33, false)⟩ ::
  ⟨some 36, .call 195 [.t 35, .k (.val (.str ⟨#[35]⟩))], some (33, false)⟩ ::
  ⟨some 37, .un .not (.t 36), some (33, false)⟩ ::
  ⟨some 38, .pick (.t 33) (.k (.val (.bool true))) (.t 37), none⟩ ::
  ⟨some 39, .mov (.t 38), none⟩ ::
  ir179_ops1_37
def ir179_ops1_25 : List POper :=
  ⟨some 28, .faddr 4 (.t 1), some (27, false)⟩ ::
  ⟨some 29, .load false 1 (.t 28), some (27, false)⟩ ::
  ⟨some 30, .call 195 [.t 29, .k (.val (.str ⟨#[63, 35]⟩))], some (27, false)⟩ ::
  ⟨some 31, .un .not (.t 30), some (27, false)⟩ ::
  ⟨some 32, .pick (.t 27) (.k (.val (.bool true))) (.t 31), none⟩ ::
  ⟨some 33, .mov (.t 32), none⟩ ::
  ir179_ops1_31
def ir179_ops1_15 : List POper :=
  ⟨some 18, .faddr 8 (.t 1), some (17, false)⟩ ::
  ⟨some 19, .load false 1 (.t 18), some (17, false)⟩ ::
  ⟨some 20, .un .not (.t 19), some (17, false)⟩ ::
  ⟨some 21, .mov (.t 20), some (17, false)⟩ ::
  ⟨some 22, .faddr 6 (.t 1), some (21, true)⟩ ::
  ⟨some 23, .load false 1 (.t 22), some (21, true)⟩ ::
  ⟨some 24, .bin .neq (.t 23) (.k (.val (.str ⟨#[]⟩))), some (21, true)⟩ ::
  ⟨some 25, .pick (.t 21) (.t 24) (.k (.val (.bool false))), some (17, false)⟩ ::
  ⟨some 26, .pick (.t 17) (.k (.val (.bool true))) (.t 25), none⟩ ::
  ⟨some 27, .mov (.t 26), none⟩ ::
  ir179_ops1_25
def ir179_from3 : PC :=
 .seq (
 .draw [
   ⟨some 78, .faddr 1 (.t 1), none⟩,
   ⟨some 79, .load false 1 (.t 78), none⟩,
   ⟨some 80, .call 195 [.t 79, .k (.val (.str ⟨#[47, 63, 35, 64]⟩))], none⟩,
   ⟨some 81, .mov (.t 80), none⟩,
   ⟨some 82, .faddr 2 (.t 1), some (81, true)⟩,
   ⟨some 83, .load false 1 (.t 82), some (81, true)⟩,
   ⟨some 84, .call 196 [.t 83], some (81, true)⟩,
   ⟨some 85, .pick (.t 81) (.t 84) (.k (.val (.bool false))), none⟩,
   ⟨some 86, .mov (.t 85), none⟩,
   ⟨some 87, .faddr 3 (.t 1), some (86, true)⟩,
   ⟨some 88, .load false 1 (.t 87), some (86, true)⟩,
   ⟨some 89, .call 56 [.t 88, .k (.val (.int .i64 0)), .k (.val (.int .i64 65535))], some (86, true)⟩,
   ⟨some 90, .pick (.t 86) (.t 89) (.k (.val (.bool false))), none⟩,
   ⟨some 91, .mov (.t 90), none⟩,
   ⟨some 92, .faddr 3 (.t 1), some (91, true)⟩,
   ⟨some 93, .load false 1 (.t 92), some (91, true)⟩,
   ⟨some 94, .faddr 0 (.t 1), some (91, true)⟩,
   ⟨some 95, .load false 1 (.t 94), some (91, true)⟩,
   ⟨some 96, .call 181 [.t 95], some (91, true)⟩,
   ⟨some 97, .bin .neq (.t 93) (.t 96), some (91, true)⟩,
   ⟨some 98, .pick (.t 91) (.t 97) (.k (.val (.bool false))), none⟩,
   ⟨some 99, .mov (.t 98), none⟩,
   ⟨some 100, .faddr 4 (.t 1), some (99, true)⟩,
   ⟨some 101, .load false 1 (.t 100), some (99, true)⟩,
   ⟨some 102, .lens (.t 101), some (99, true)⟩,
   ⟨some 103, .bin .gtr (.t 102) (.k (.val (.int .i64 0))), some (99, true)⟩,
   ⟨some 104, .pick (.t 99) (.t 103) (.k (.val (.bool false))), none⟩,
   ⟨some 105, .mov (.t 104), none⟩,
   ⟨some 106, .faddr 4 (.t 1), some (105, true)⟩,
   ⟨some 107, .load false 1 (.t 106), some (105, true)⟩,
   ⟨some 108, .idx (.t 107) (.k (.val (.int .i64 0))), some (105, true)⟩,
   ⟨some 109, .bin .eql (.t 108) (.k (.val (.int .u8 47))), some (105, true)⟩,
   ⟨some 110, .pick (.t 105) (.t 109) (.k (.val (.bool false))), none⟩] [
   ⟨some 2, .mov (.t 110), none⟩]) (
 .ret)
def ir179_from2 : PC :=
 .seq (
 .seq (
 .reg [
   ⟨some 51, .faddr 0 (.t 1), none⟩,
   ⟨some 52, .load false 1 (.t 51), none⟩,
   ⟨some 53, .call 162 [.t 52], none⟩,
   ⟨some 54, .un .not (.t 53), none⟩]) (
 .cond (.t 54) (
  .seq (
  .reg [
    ⟨some 55, .faddr 1 (.t 1), none⟩,
    ⟨some 56, .load false 1 (.t 55), none⟩,
    ⟨some 57, .bin .eql (.t 56) (.k (.val (.str ⟨#[]⟩))), none⟩,
    ⟨some 58, .mov (.t 57), none⟩,
    ⟨some 59, .faddr 2 (.t 1), some (58, true)⟩,
    ⟨some 60, .load false 1 (.t 59), some (58, true)⟩,
    ⟨some 61, .bin .eql (.t 60) (.k (.val (.str ⟨#[]⟩))), some (58, true)⟩,
    ⟨some 62, .pick (.t 58) (.t 61) (.k (.val (.bool false))), none⟩,
    ⟨some 63, .mov (.t 62), none⟩,
    ⟨some 64, .faddr 3 (.t 1), some (63, true)⟩,
    ⟨some 65, .load false 1 (.t 64), some (63, true)⟩,
    ⟨some 66, .bin .eql (.t 65) (.k (.val (.int .i64 0))), some (63, true)⟩,
    ⟨some 67, .pick (.t 63) (.t 66) (.k (.val (.bool false))), none⟩,
    ⟨some 68, .mov (.t 67), none⟩,
    ⟨some 69, .faddr 7 (.t 1), some (68, true)⟩,
    ⟨some 70, .load false 1 (.t 69), some (68, true)⟩,
    ⟨some 71, .un .not (.t 70), some (68, true)⟩,
    ⟨some 72, .pick (.t 68) (.t 71) (.k (.val (.bool false))), none⟩,
    ⟨some 73, .mov (.t 72), none⟩,
    ⟨some 74, .faddr 8 (.t 1), some (73, true)⟩,
    ⟨some 75, .load false 1 (.t 74), some (73, true)⟩,
    ⟨some 76, .un .not (.t 75), some (73, true)⟩,
    ⟨some 77, .pick (.t 73) (.t 76) (.k (.val (.bool false))), none⟩,
    ⟨some 2, .mov (.t 77), none⟩]) (
  .ret)) (
  .skip))) (
 ir179_from3)
/-- loop.example/g00779/spec.l01OK -/
def ir179 : PC :=
 .seq (
 .reg [
   ⟨some 1, .box (.t 0), none⟩,
   ⟨some 2, .mov (.k (.val (.bool false))), none⟩]) (
 .seq (
 .seq (
 .reg (⟨some 3, .faddr 0 (.t 1), none⟩ ::
   ⟨some 4, .load false 1 (.t 3), none⟩ ::
   ⟨some 5, .call 194 [.t 4], none⟩ ::
   ⟨some 6, .un .not (.t 5), none⟩ ::
   ⟨some 7, .mov (.t 6), none⟩ ::
   ⟨some 8, .faddr 7 (.t 1), some (7, false)⟩ ::
   ⟨some 9, .load false 1 (.t 8), some (7, false)⟩ ::
   ⟨some 10, .un .not (.t 9), some (7, false)⟩ ::
   ⟨some 11, .mov (.t 10), some (7, false)⟩ ::
   ⟨some 12, .faddr 5 (.t 1), some (11, true)⟩ ::
   ⟨some 13, .load false 1 (.t 12), some (11, true)⟩ ::
   ⟨some 14, .bin .neq (.t 13) (.k (.val (.str ⟨#[]⟩))), some (11, true)⟩ ::
   ⟨some 15, .pick (.t 11) (.t 14) (.k (.val (.bool false))), some (7, false)⟩ ::
   ⟨some 16, .pick (.t 7) (.k (.val (.bool true))) (.t 15), none⟩ ::
   ⟨some 17, .mov (.t 16), none⟩ ::
   ir179_ops1_15)) (
 .cond (.t 50) (
  .seq (
  .reg [
    ⟨some 2, .mov (.k (.val (.bool false))), none⟩]) (
  .ret)) (
  .skip))) (
 ir179_from2))
theorem ok179 : chkFn Tryz.prog 179 ir179 1 [.t 2] = true := by kernel_rfl

end Go.Proofs
end

/- Functions of the seat as data. MADE BY PROGRAM (print_ir.py). -/
section
set_option maxRecDepth 100000
namespace Go.Proofs
open Go.PW

def ir161_from18 : PC :=
 .seq (
 .draw [
   ⟨some 149, .load true 9 (.t 5), none⟩,
   ⟨some 150, .load true 9 (.t 5), none⟩,
   ⟨some 151, .call 179 [.t 150], none⟩] [
   ⟨none, .store 9 (.t 2) (.t 149), none⟩,
   ⟨some 3, .mov (.t 151), none⟩]) (
 .ret)
def ir161_from17 : PC :=
 .seq (
 .seq (
 .reg [
   ⟨some 122, .mov (.t 4), none⟩,
   ⟨some 123, .mov (.t 6), none⟩,
   ⟨some 124, .lens (.t 123), none⟩,
   ⟨some 125, .bin .lss (.t 122) (.t 124), none⟩]) (
 .cond (.t 125) (
  .seq (
  .reg [
    ⟨some 127, .mov (.t 6), none⟩,
    ⟨some 128, .mov (.t 4), none⟩,
    ⟨some 129, .bin .add (.t 128) (.k (.val (.int .i64 1))), none⟩,
    ⟨some 130, .slc 0 (.t 127) (some (.t 129)) none, none⟩,
    ⟨some 131, .call 180 [.t 130], none⟩,
    ⟨some 126, .mov (.t 131), none⟩,
    ⟨some 132, .ext 0 (.t 126), none⟩,
    ⟨some 133, .ext 1 (.t 126), none⟩,
    ⟨some 11, .mov (.t 132), none⟩,
    ⟨some 12, .mov (.t 133), none⟩]) (
  .seq (
  .seq (
  .reg [
    ⟨some 134, .mov (.t 12), none⟩,
    ⟨some 135, .un .not (.t 134), none⟩,
    ⟨some 136, .mov (.t 135), none⟩,
    ⟨some 137, .mov (.t 11), some (136, false)⟩,
    ⟨some 138, .call 56 [.t 137, .k (.val (.int .i64 1)), .k (.val (.int .i64 65535))], some (136, false)⟩,
    ⟨some 139, .un .not (.t 138), some (136, false)⟩,
    ⟨some 140, .pick (.t 136) (.k (.val (.bool true))) (.t 139), none⟩]) (
  .cond (.t 140) (
   .seq (
   .reg [
     ⟨some 141, .build [.val (.str ⟨#[]⟩), .val (.str ⟨#[]⟩), .val (.str ⟨#[]⟩), .val (.int .i64 0), .val (.str ⟨#[]⟩), .val (.str ⟨#[]⟩), .val (.str ⟨#[]⟩), .val (.bool false), .val (.bool false)] [], none⟩,
     ⟨none, .store 9 (.t 2) (.t 141), none⟩,
     ⟨some 3, .mov (.k (.val (.bool false))), none⟩]) (
   .ret)) (
   .skip))) (
  .seq (
  .reg [
    ⟨some 142, .mov (.t 11), none⟩,
    ⟨some 143, .faddr 0 (.t 5), none⟩,
    ⟨some 144, .load false 1 (.t 143), none⟩,
    ⟨some 145, .call 181 [.t 144], none⟩,
    ⟨some 146, .bin .neq (.t 142) (.t 145), none⟩]) (
  .cond (.t 146) (
   .reg [
     ⟨some 147, .mov (.t 11), none⟩,
     ⟨some 148, .faddr 3 (.t 5), none⟩,
     ⟨none, .store 1 (.t 148) (.t 147), none⟩]) (
   .skip))))) (
  .skip))) (
 ir161_from18)
def ir161_from15 : PC :=
 .seq (
 .reg [
   ⟨some 115, .mov (.t 6), none⟩,
   ⟨some 116, .call 177 [.t 115, .k (.val (.int .u8 58))], none⟩,
   ⟨some 4, .mov (.t 116), none⟩]) (
 .seq (
 .reg [
   ⟨some 117, .mov (.t 6), none⟩,
   ⟨some 118, .mov (.t 4), none⟩,
   ⟨some 119, .slc 0 (.t 117) none (some (.t 118)), none⟩,
   ⟨some 120, .call 178 [.t 119], none⟩,
   ⟨some 121, .faddr 2 (.t 5), none⟩,
   ⟨none, .store 1 (.t 121) (.t 120), none⟩]) (
 ir161_from17))
def ir161_from14 : PC :=
 .seq (
 .seq (
 .reg [
   ⟨some 101, .mov (.t 6), none⟩,
   ⟨some 102, .call 177 [.t 101, .k (.val (.int .u8 64))], none⟩,
   ⟨some 10, .mov (.t 102), none⟩]) (
 .seq (
 .reg [
   ⟨some 103, .mov (.t 10), none⟩,
   ⟨some 104, .mov (.t 6), none⟩,
   ⟨some 105, .lens (.t 104), none⟩,
   ⟨some 106, .bin .lss (.t 103) (.t 105), none⟩]) (
 .cond (.t 106) (
  .seq (
  .reg [
    ⟨some 107, .mov (.t 6), none⟩,
    ⟨some 108, .mov (.t 10), none⟩,
    ⟨some 109, .slc 0 (.t 107) none (some (.t 108)), none⟩,
    ⟨some 110, .faddr 1 (.t 5), none⟩,
    ⟨none, .store 1 (.t 110) (.t 109), none⟩]) (
  .reg [
    ⟨some 111, .mov (.t 6), none⟩,
    ⟨some 112, .mov (.t 10), none⟩,
    ⟨some 113, .bin .add (.t 112) (.k (.val (.int .i64 1))), none⟩,
    ⟨some 114, .slc 0 (.t 111) (some (.t 113)) none, none⟩,
    ⟨some 6, .mov (.t 114), none⟩])) (
  .skip)))) (
 ir161_from15)
def ir161_from12 : PC :=
 .seq (
 .seq (
 .reg [
   ⟨some 94, .faddr 4 (.t 5), none⟩,
   ⟨some 95, .load false 1 (.t 94), none⟩,
   ⟨some 96, .bin .eql (.t 95) (.k (.val (.str ⟨#[]⟩))), none⟩]) (
 .cond (.t 96) (
  .reg [
    ⟨some 97, .faddr 4 (.t 5), none⟩,
    ⟨none, .store 1 (.t 97) (.k (.val (.str ⟨#[47]⟩))), none⟩]) (
  .skip))) (
 .seq (
 .reg [
   ⟨some 98, .mov (.t 6), none⟩,
   ⟨some 99, .mov (.t 4), none⟩,
   ⟨some 100, .slc 0 (.t 98) none (some (.t 99)), none⟩,
   ⟨some 6, .mov (.t 100), none⟩]) (
 ir161_from14))
def ir161_from10 : PC :=
 .seq (
 .reg [
   ⟨some 88, .mov (.t 6), none⟩,
   ⟨some 89, .call 177 [.t 88, .k (.val (.int .u8 47))], none⟩,
   ⟨some 4, .mov (.t 89), none⟩]) (
 .seq (
 .reg [
   ⟨some 90, .mov (.t 6), none⟩,
   ⟨some 91, .mov (.t 4), none⟩,
   ⟨some 92, .slc 0 (.t 90) (some (.t 91)) none, none⟩,
   ⟨some 93, .faddr 4 (.t 5), none⟩,
   ⟨none, .store 1 (.t 93) (.t 92), none⟩]) (
 ir161_from12))
def ir161_from9 : PC :=
 .seq (
 .seq (
 .reg [
   ⟨some 73, .mov (.t 6), none⟩,
   ⟨some 74, .call 177 [.t 73, .k (.val (.int .u8 63))], none⟩,
   ⟨some 9, .mov (.t 74), none⟩]) (
 .seq (
 .reg [
   ⟨some 75, .mov (.t 9), none⟩,
   ⟨some 76, .mov (.t 6), none⟩,
   ⟨some 77, .lens (.t 76), none⟩,
   ⟨some 78, .bin .lss (.t 75) (.t 77), none⟩]) (
 .cond (.t 78) (
  .seq (
  .reg [
    ⟨some 79, .faddr 7 (.t 5), none⟩,
    ⟨none, .store 1 (.t 79) (.k (.val (.bool true))), none⟩]) (
  .seq (
  .reg [
    ⟨some 80, .mov (.t 6), none⟩,
    ⟨some 81, .mov (.t 9), none⟩,
    ⟨some 82, .bin .add (.t 81) (.k (.val (.int .i64 1))), none⟩,
    ⟨some 83, .slc 0 (.t 80) (some (.t 82)) none, none⟩,
    ⟨some 84, .faddr 5 (.t 5), none⟩,
    ⟨none, .store 1 (.t 84) (.t 83), none⟩]) (
  .reg [
    ⟨some 85, .mov (.t 6), none⟩,
    ⟨some 86, .mov (.t 9), none⟩,
    ⟨some 87, .slc 0 (.t 85) none (some (.t 86)), none⟩,
    ⟨some 6, .mov (.t 87), none⟩]))) (
  .skip)))) (
 ir161_from10)
def ir161_from8 : PC :=
 .seq (
 .seq (
 .reg [
   ⟨some 58, .mov (.t 6), none⟩,
   ⟨some 59, .call 177 [.t 58, .k (.val (.int .u8 35))], none⟩,
   ⟨some 8, .mov (.t 59), none⟩]) (
 .seq (
 .reg [
   ⟨some 60, .mov (.t 8), none⟩,
   ⟨some 61, .mov (.t 6), none⟩,
   ⟨some 62, .lens (.t 61), none⟩,
   ⟨some 63, .bin .lss (.t 60) (.t 62), none⟩]) (
 .cond (.t 63) (
  .seq (
  .reg [
    ⟨some 64, .faddr 8 (.t 5), none⟩,
    ⟨none, .store 1 (.t 64) (.k (.val (.bool true))), none⟩]) (
  .seq (
  .reg [
    ⟨some 65, .mov (.t 6), none⟩,
    ⟨some 66, .mov (.t 8), none⟩,
    ⟨some 67, .bin .add (.t 66) (.k (.val (.int .i64 1))), none⟩,
    ⟨some 68, .slc 0 (.t 65) (some (.t 67)) none, none⟩,
    ⟨some 69, .faddr 6 (.t 5), none⟩,
    ⟨none, .store 1 (.t 69) (.t 68), none⟩]) (
  .reg [
    ⟨some 70, .mov (.t 6), none⟩,
    ⟨some 71, .mov (.t 8), none⟩,
    ⟨some 72, .slc 0 (.t 70) none (some (.t 71)), none⟩,
    ⟨some 6, .mov (.t 72), none⟩]))) (
  .skip)))) (
 ir161_from9)
def ir161_from5 : PC :=
 .seq (
 .seq (
 .reg [
   ⟨some 29, .faddr 0 (.t 5), none⟩,
   ⟨some 30, .load false 1 (.t 29), none⟩,
   ⟨some 31, .call 162 [.t 30], none⟩,
   ⟨some 32, .un .not (.t 31), none⟩]) (
 .cond (.t 32) (
  .seq (
  .reg [
    ⟨some 33, .mov (.t 6), none⟩,
    ⟨some 34, .call 177 [.t 33, .k (.val (.int .u8 35))], none⟩,
    ⟨some 7, .mov (.t 34), none⟩]) (
  .seq (
  .reg [
    ⟨some 35, .mov (.t 6), none⟩,
    ⟨some 36, .mov (.t 7), none⟩,
    ⟨some 37, .slc 0 (.t 35) none (some (.t 36)), none⟩,
    ⟨some 6, .mov (.t 37), none⟩]) (
  .seq (
  .reg [
    ⟨some 38, .mov (.t 6), none⟩,
    ⟨some 39, .call 177 [.t 38, .k (.val (.int .u8 63))], none⟩,
    ⟨some 7, .mov (.t 39), none⟩]) (
  .seq (
  .reg [
    ⟨some 40, .mov (.t 6), none⟩,
    ⟨some 41, .mov (.t 7), none⟩,
    ⟨some 42, .slc 0 (.t 40) none (some (.t 41)), none⟩,
    ⟨some 43, .faddr 4 (.t 5), none⟩,
    ⟨none, .store 1 (.t 43) (.t 42), none⟩]) (
  .seq (
  .draw [
    ⟨some 44, .load true 9 (.t 5), none⟩,
    ⟨some 45, .load true 9 (.t 5), none⟩,
    ⟨some 46, .call 179 [.t 45], none⟩] [
    ⟨none, .store 9 (.t 2) (.t 44), none⟩,
    ⟨some 3, .mov (.t 46), none⟩]) (
  .ret)))))) (
  .skip))) (
 .seq (
 .seq (
 .reg [
   ⟨some 47, .mov (.t 6), none⟩,
   ⟨some 48, .lens (.t 47), none⟩,
   ⟨some 49, .bin .lss (.t 48) (.k (.val (.int .i64 2))), none⟩,
   ⟨some 50, .mov (.t 49), none⟩,
   ⟨some 51, .mov (.t 6), some (50, false)⟩,
   ⟨some 52, .slc 0 (.t 51) none (some (.k (.val (.int .i64 2)))), some (50, false)⟩,
   ⟨some 53, .bin .neq (.t 52) (.k (.val (.str ⟨#[47, 47]⟩))), some (50, false)⟩,
   ⟨some 54, .pick (.t 50) (.k (.val (.bool true))) (.t 53), none⟩]) (
 .cond (.t 54) (
  .seq (
  .reg [
    ⟨some 55, .build [.val (.str ⟨#[]⟩), .val (.str ⟨#[]⟩), .val (.str ⟨#[]⟩), .val (.int .i64 0), .val (.str ⟨#[]⟩), .val (.str ⟨#[]⟩), .val (.str ⟨#[]⟩), .val (.bool false), .val (.bool false)] [], none⟩,
    ⟨none, .store 9 (.t 2) (.t 55), none⟩,
    ⟨some 3, .mov (.k (.val (.bool false))), none⟩]) (
  .ret)) (
  .skip))) (
 .seq (
 .reg [
   ⟨some 56, .mov (.t 6), none⟩,
   ⟨some 57, .slc 0 (.t 56) (some (.k (.val (.int .i64 2)))) none, none⟩,
   ⟨some 6, .mov (.t 57), none⟩]) (
 ir161_from8)))
/-- loop.example/g00779/spec.l01Parse -/
def ir161 : PC :=
 .seq (
 .reg [
   ⟨some 2, .alloc [.val (.str ⟨#[]⟩), .val (.str ⟨#[]⟩), .val (.str ⟨#[]⟩), .val (.int .i64 0), .val (.str ⟨#[]⟩), .val (.str ⟨#[]⟩), .val (.str ⟨#[]⟩), .val (.bool false), .val (.bool false)], none⟩,
   ⟨some 3, .mov (.k (.val (.bool false))), none⟩]) (
 .seq (
 .reg [
   ⟨some 13, .mov (.t 0), none⟩,
   ⟨some 14, .call 177 [.t 13, .k (.val (.int .u8 58))], none⟩,
   ⟨some 4, .mov (.t 14), none⟩]) (
 .seq (
 .seq (
 .reg [
   ⟨some 15, .mov (.t 4), none⟩,
   ⟨some 16, .mov (.t 0), none⟩,
   ⟨some 17, .lens (.t 16), none⟩,
   ⟨some 18, .bin .eql (.t 15) (.t 17), none⟩]) (
 .cond (.t 18) (
  .seq (
  .reg [
    ⟨some 19, .build [.val (.str ⟨#[]⟩), .val (.str ⟨#[]⟩), .val (.str ⟨#[]⟩), .val (.int .i64 0), .val (.str ⟨#[]⟩), .val (.str ⟨#[]⟩), .val (.str ⟨#[]⟩), .val (.bool false), .val (.bool false)] [], none⟩,
    ⟨none, .store 9 (.t 2) (.t 19), none⟩,
    ⟨some 3, .mov (.k (.val (.bool false))), none⟩]) (
  .ret)) (
  .skip))) (
 .seq (
 .reg [
   ⟨some 20, .mov (.t 0), none⟩,
   ⟨some 21, .mov (.t 4), none⟩,
   ⟨some 22, .slc 0 (.t 20) none (some (.t 21)), none⟩,
   ⟨some 23, .call 178 [.t 22], none⟩,
   ⟨some 24, .build [.val (.str ⟨#[]⟩), .val (.str ⟨#[]⟩), .val (.str ⟨#[]⟩), .val (.int .i64 0), .val (.str ⟨#[]⟩), .val (.str ⟨#[]⟩), .val (.str ⟨#[]⟩), .val (.bool false), .val (.bool false)] [(0, 1, .t 23)], none⟩,
   ⟨some 5, .alloc [.val (.str ⟨#[]⟩), .val (.str ⟨#[]⟩), .val (.str ⟨#[]⟩), .val (.int .i64 0), .val (.str ⟨#[]⟩), .val (.str ⟨#[]⟩), .val (.str ⟨#[]⟩), .val (.bool false), .val (.bool false)], none⟩,
   ⟨none, .store 9 (.t 5) (.t 24), none⟩]) (
 .seq (
 .reg [
   ⟨some 25, .mov (.t 0), none⟩,
   ⟨some 26, .mov (.t 4), none⟩,
   ⟨some 27, .bin .add (.t 26) (.k (.val (.int .i64 1))), none⟩,
   ⟨some 28, .slc 0 (.t 25) (some (.t 27)) none, none⟩,
   ⟨some 6, .mov (.t 28), none⟩]) (
 ir161_from5)))))
theorem ok161 : chkFn Tryz.prog 161 ir161 1 [.c 2 true 9, .t 3] = true := by kernel_rfl

end Go.Proofs
end

/- Functions of the seat as data. MADE BY PROGRAM (print_ir.py). -/
section
set_option maxRecDepth 100000
namespace Go.Proofs
open Go.PW

/-- loop.example/g00779/impl.within -/
def ir29 : PC :=
 .seq (
 .reg [
   ⟨some 6, .mov (.k (.val (.bool false))), none⟩]) (
 .seq (
 .reg [
   ⟨some 7, .mov (.t 1), none⟩,
   ⟨some 8, .mov (.t 0), none⟩,
   ⟨some 9, .bin .leq (.t 7) (.t 8), none⟩,
   ⟨some 10, .mov (.t 9), none⟩,
   ⟨some 11, .mov (.t 0), some (10, true)⟩,
   ⟨some 12, .mov (.t 2), some (10, true)⟩,
   ⟨some 13, .bin .leq (.t 11) (.t 12), some (10, true)⟩,
   ⟨some 14, .pick (.t 10) (.t 13) (.k (.val (.bool false))), none⟩,
   ⟨some 6, .mov (.t 14), none⟩]) (
 .ret))
theorem ok29 : chkFn Tryz.prog 29 ir29 3 [.t 6] = true := by kernel_rfl

/-- loop.example/g00779/impl.unless -/
def ir43 : PC :=
 .seq (
 .reg [
   ⟨some 4, .mov (.k (.val (.int .i64 0))), none⟩]) (
 .seq (
 .seq (
 .reg [
   ⟨some 5, .mov (.t 0), none⟩]) (
 .cond (.t 5) (
  .seq (
  .reg [
    ⟨some 4, .mov (.k (.val (.int .i64 0))), none⟩]) (
  .ret)) (
  .skip))) (
 .seq (
 .reg [
   ⟨some 6, .mov (.t 1), none⟩,
   ⟨some 4, .mov (.t 6), none⟩]) (
 .ret)))
theorem ok43 : chkFn Tryz.prog 43 ir43 2 [.t 4] = true := by kernel_rfl

/-- loop.example/g00779/impl.long -/
def ir42 : PC :=
 .seq (
 .reg [
   ⟨some 2, .mov (.k (.val (.int .i64 0))), none⟩]) (
 .seq (
 .reg [
   ⟨some 3, .mov (.t 0), none⟩,
   ⟨some 4, .lens (.t 3), none⟩,
   ⟨some 5, .bin .leq (.t 4) (.k (.val (.int .i64 65536))), none⟩,
   ⟨some 6, .call 43 [.t 5, .k (.val (.int .i64 2))], none⟩,
   ⟨some 2, .mov (.t 6), none⟩]) (
 .ret))
theorem ok42 : chkFn Tryz.prog 42 ir42 1 [.t 2] = true := by kernel_rfl

/-- loop.example/g00779/impl.isLower -/
def ir148 : PC :=
 .seq (
 .reg [
   ⟨some 2, .mov (.k (.val (.bool false))), none⟩]) (
 .seq (
 .reg [
   ⟨some 3, .mov (.t 0), none⟩,
   ⟨some 4, .bin .leq (.k (.val (.int .u8 97))) (.t 3), none⟩,
   ⟨some 5, .mov (.t 4), none⟩,
   ⟨some 6, .mov (.t 0), some (5, true)⟩,
   ⟨some 7, .bin .leq (.t 6) (.k (.val (.int .u8 122))), some (5, true)⟩,
   ⟨some 8, .pick (.t 5) (.t 7) (.k (.val (.bool false))), none⟩,
   ⟨some 2, .mov (.t 8), none⟩]) (
 .ret))
theorem ok148 : chkFn Tryz.prog 148 ir148 1 [.t 2] = true := by kernel_rfl

/-- loop.example/g00779/impl.isDigit -/
def ir210 : PC :=
 .seq (
 .reg [
   ⟨some 2, .mov (.k (.val (.bool false))), none⟩]) (
 .seq (
 .reg [
   ⟨some 3, .mov (.t 0), none⟩,
   ⟨some 4, .bin .leq (.k (.val (.int .u8 48))) (.t 3), none⟩,
   ⟨some 5, .mov (.t 4), none⟩,
   ⟨some 6, .mov (.t 0), some (5, true)⟩,
   ⟨some 7, .bin .leq (.t 6) (.k (.val (.int .u8 57))), some (5, true)⟩,
   ⟨some 8, .pick (.t 5) (.t 7) (.k (.val (.bool false))), none⟩,
   ⟨some 2, .mov (.t 8), none⟩]) (
 .ret))
theorem ok210 : chkFn Tryz.prog 210 ir210 1 [.t 2] = true := by kernel_rfl

def ir200_o18 : List POper :=
 [
  ⟨some 18, .mov (.t 3), some (17, true)⟩,
  ⟨some 19, .bin .eql (.t 18) (.k (.val (.int .i64 0))), some (17, true)⟩,
  ⟨some 20, .mov (.t 19), some (17, true)⟩,
  ⟨some 21, .mov (.t 4), some (20, false)⟩,
  ⟨some 22, .call 210 [.t 21], some (20, false)⟩,
  ⟨some 23, .un .not (.t 22), some (20, false)⟩,
  ⟨some 24, .mov (.t 23), some (20, false)⟩,
  ⟨some 25, .mov (.t 4), some (24, true)⟩,
  ⟨some 26, .bin .neq (.t 25) (.k (.val (.int .u8 45))), some (24, true)⟩,
  ⟨some 27, .pick (.t 24) (.t 26) (.k (.val (.bool false))), some (20, false)⟩,
  ⟨some 28, .mov (.t 27), some (20, false)⟩,
  ⟨some 29, .mov (.t 4), some (28, true)⟩,
  ⟨some 30, .bin .neq (.t 29) (.k (.val (.int .u8 43))), some (28, true)⟩,
  ⟨some 31, .pick (.t 28) (.t 30) (.k (.val (.bool false))), some (20, false)⟩,
  ⟨some 32, .mov (.t 31), some (20, false)⟩,
  ⟨some 33, .mov (.t 4), some (32, true)⟩,
  ⟨some 34, .bin .neq (.t 33) (.k (.val (.int .u8 46))), some (32, true)⟩,
  ⟨some 35, .pick (.t 32) (.t 34) (.k (.val (.bool false))), some (20, false)⟩,
  ⟨some 36, .pick (.t 20) (.k (.val (.bool true))) (.t 35), some (17, true)⟩,
  ⟨some 37, .pick (.t 17) (.t 36) (.k (.val (.bool false))), none⟩]
def ir200_l9 : PC :=
 .seq (
 .reg [
   ⟨some 9, .bin .lss (.t 8) (.t 7), none⟩]) (
 .seq (
 .cond (.t 9) (
  .skip) (
  .exit 0)) (
 .seq (
 .block 1 (
  .seq (
  .reg [
    ⟨some 10, .mov (.t 8), none⟩,
    ⟨some 3, .mov (.t 10), none⟩]) (
  .seq (
  .reg [
    ⟨some 11, .mov (.t 0), none⟩,
    ⟨some 12, .mov (.t 3), none⟩,
    ⟨some 13, .idx (.t 11) (.t 12), none⟩,
    ⟨some 4, .mov (.t 13), none⟩]) (
  .seq (
  .reg (
    ⟨some 14, .mov (.t 4), none⟩ ::
    ⟨some 15, .call 148 [.t 14], none⟩ ::
    ⟨some 16, .un .not (.t 15), none⟩ ::
    ⟨some 17, .mov (.t 16), none⟩ ::
    ir200_o18)) (
  .cond (.t 37) (
   .seq (
   .reg [
     ⟨some 2, .mov (.k (.val (.bool false))), none⟩]) (
   .ret)) (
   .skip)))))) (
 .reg [
   ⟨some 38, .bin .add (.t 8) (.k (.val (.int .i64 1))), none⟩,
   ⟨some 8, .mov (.t 38), none⟩])))
/-- loop.example/g00779/impl.isScheme -/
def ir200 : PC :=
 .seq (
 .reg [
   ⟨some 2, .mov (.k (.val (.bool false))), none⟩]) (
 .seq (
 .seq (
 .reg [
   ⟨some 5, .mov (.t 0), none⟩,
   ⟨some 6, .lens (.t 5), none⟩,
   ⟨some 7, .mn (.t 6) (.k (.val (.int .i64 13))), none⟩,
   ⟨some 8, .mov (.k (.val (.int .i64 0))), none⟩]) (
 .block 0 (
  .loop (.ghost ir200_l9)))) (
 .seq (
 .reg [
   ⟨some 39, .mov (.t 0), none⟩,
   ⟨some 40, .lens (.t 39), none⟩,
   ⟨some 41, .call 29 [.t 40, .k (.val (.int .i64 1)), .k (.val (.int .i64 12))], none⟩,
   ⟨some 2, .mov (.t 41), none⟩]) (
 .ret)))
theorem ok200 : chkFn Tryz.prog 200 ir200 1 [.t 2] = true := by kernel_rfl

def ir202_o44 : List POper :=
 [
  ⟨some 44, .mov (.t 0), some (43, false)⟩,
  ⟨some 45, .mov (.t 3), some (43, false)⟩,
  ⟨some 46, .bin .sub (.t 45) (.k (.val (.int .i64 1))), some (43, false)⟩,
  ⟨some 47, .idx (.t 44) (.t 46), some (43, false)⟩,
  ⟨some 48, .bin .eql (.t 47) (.k (.val (.int .u8 46))), some (43, false)⟩,
  ⟨some 49, .pick (.t 43) (.k (.val (.bool true))) (.t 48), none⟩]
def ir202_o37 : List POper :=
 ⟨some 37, .mov (.t 0), some (36, false)⟩ ::
  ⟨some 38, .mov (.t 3), some (36, false)⟩ ::
  ⟨some 39, .bin .sub (.t 38) (.k (.val (.int .i64 1))), some (36, false)⟩ ::
  ⟨some 40, .idx (.t 37) (.t 39), some (36, false)⟩ ::
  ⟨some 41, .bin .eql (.t 40) (.k (.val (.int .u8 45))), some (36, false)⟩ ::
  ⟨some 42, .pick (.t 36) (.k (.val (.bool true))) (.t 41), none⟩ ::
  ⟨some 43, .mov (.t 42), none⟩ ::
  ir202_o44
def ir202_o30 : List POper :=
 ⟨some 30, .mov (.t 3), some (29, false)⟩ ::
  ⟨some 31, .mov (.t 0), some (29, false)⟩ ::
  ⟨some 32, .lens (.t 31), some (29, false)⟩ ::
  ⟨some 33, .bin .sub (.t 32) (.k (.val (.int .i64 1))), some (29, false)⟩ ::
  ⟨some 34, .bin .eql (.t 30) (.t 33), some (29, false)⟩ ::
  ⟨some 35, .pick (.t 29) (.k (.val (.bool true))) (.t 34), none⟩ ::
  ⟨some 36, .mov (.t 35), none⟩ ::
  ir202_o37
def ir202_o26 : List POper :=
 ⟨some 26, .mov (.t 3), some (25, false)⟩ ::
  ⟨some 27, .bin .eql (.t 26) (.k (.val (.int .i64 0))), some (25, false)⟩ ::
  ⟨some 28, .pick (.t 25) (.k (.val (.bool true))) (.t 27), none⟩ ::
  ⟨some 29, .mov (.t 28), none⟩ ::
  ir202_o30
def ir202_s19 : PC :=
 .seq (
 .reg (
   ⟨some 19, .mov (.t 4), none⟩ ::
   ⟨some 20, .bin .neq (.t 19) (.k (.val (.int .u8 45))), none⟩ ::
   ⟨some 21, .mov (.t 20), none⟩ ::
   ⟨some 22, .mov (.t 4), some (21, true)⟩ ::
   ⟨some 23, .bin .neq (.t 22) (.k (.val (.int .u8 46))), some (21, true)⟩ ::
   ⟨some 24, .pick (.t 21) (.t 23) (.k (.val (.bool false))), none⟩ ::
   ⟨some 25, .mov (.t 24), none⟩ ::
   ir202_o26)) (
 .cond (.t 49) (
  .seq (
  .reg [
    ⟨some 2, .mov (.k (.val (.bool false))), none⟩]) (
  .ret)) (
  .skip))
def ir202_l8 : PC :=
 .seq (
 .reg [
   ⟨some 8, .bin .lss (.t 7) (.t 6), none⟩]) (
 .seq (
 .cond (.t 8) (
  .skip) (
  .exit 0)) (
 .seq (
 .block 1 (
  .seq (
  .reg [
    ⟨some 9, .mov (.t 7), none⟩,
    ⟨some 3, .mov (.t 9), none⟩]) (
  .seq (
  .reg [
    ⟨some 10, .mov (.t 0), none⟩,
    ⟨some 11, .mov (.t 3), none⟩,
    ⟨some 12, .idx (.t 10) (.t 11), none⟩,
    ⟨some 4, .mov (.t 12), none⟩]) (
  .seq (
  .seq (
  .reg [
    ⟨some 13, .mov (.t 4), none⟩,
    ⟨some 14, .call 148 [.t 13], none⟩,
    ⟨some 15, .mov (.t 14), none⟩,
    ⟨some 16, .mov (.t 4), some (15, false)⟩,
    ⟨some 17, .call 210 [.t 16], some (15, false)⟩,
    ⟨some 18, .pick (.t 15) (.k (.val (.bool true))) (.t 17), none⟩]) (
  .cond (.t 18) (
   .exit 1) (
   .skip))) (
  ir202_s19))))) (
 .reg [
   ⟨some 50, .bin .add (.t 7) (.k (.val (.int .i64 1))), none⟩,
   ⟨some 7, .mov (.t 50), none⟩])))
/-- loop.example/g00779/impl.isHost -/
def ir202 : PC :=
 .seq (
 .reg [
   ⟨some 2, .mov (.k (.val (.bool false))), none⟩]) (
 .seq (
 .seq (
 .reg [
   ⟨some 5, .mov (.t 0), none⟩,
   ⟨some 6, .lens (.t 5), none⟩,
   ⟨some 7, .mov (.k (.val (.int .i64 0))), none⟩]) (
 .block 0 (
  .loop (.ghost ir202_l8)))) (
 .seq (
 .reg [
   ⟨some 51, .mov (.t 0), none⟩,
   ⟨some 52, .bin .neq (.t 51) (.k (.val (.str ⟨#[]⟩))), none⟩,
   ⟨some 2, .mov (.t 52), none⟩]) (
 .ret)))
theorem ok202 : chkFn Tryz.prog 202 ir202 1 [.t 2] = true := by kernel_rfl

/-- loop.example/g00779/impl.areShown -/
def ir201 : PC :=
 .seq (
 .reg [
   ⟨some 2, .mov (.k (.val (.bool false))), none⟩]) (
 .seq (
 .seq (
 .reg [
   ⟨some 4, .mov (.t 0), none⟩,
   ⟨some 5, .lens (.t 4), none⟩,
   ⟨some 6, .mov (.k (.val (.int .i64 0))), none⟩]) (
 .block 0 (
  .loop (.ghost (
   .seq (
   .reg [
     ⟨some 7, .bin .lss (.t 6) (.t 5), none⟩]) (
   .seq (
   .cond (.t 7) (
    .skip) (
    .exit 0)) (
   .seq (
   .block 1 (
    .seq (
    .reg [
      ⟨some 8, .mov (.t 6), none⟩,
      ⟨some 3, .mov (.t 8), none⟩]) (
    .seq (
    .reg [
      ⟨some 9, .mov (.t 0), none⟩,
      ⟨some 10, .mov (.t 3), none⟩,
      ⟨some 11, .idx (.t 9) (.t 10), none⟩,
      ⟨some 12, .conv .i64 (.t 11), none⟩,
      ⟨some 13, .call 29 [.t 12, .k (.val (.int .i64 33)), .k (.val (.int .i64 126))], none⟩,
      ⟨some 14, .un .not (.t 13), none⟩]) (
    .cond (.t 14) (
     .seq (
     .reg [
       ⟨some 2, .mov (.k (.val (.bool false))), none⟩]) (
     .ret)) (
     .skip))))) (
   .reg [
     ⟨some 15, .bin .add (.t 6) (.k (.val (.int .i64 1))), none⟩,
     ⟨some 6, .mov (.t 15), none⟩])))))))) (
 .seq (
 .reg [
   ⟨some 2, .mov (.k (.val (.bool true))), none⟩]) (
 .ret)))
theorem ok201 : chkFn Tryz.prog 201 ir201 1 [.t 2] = true := by kernel_rfl

/-- (loop.example/g00779/impl.Url).web -/
def ir153 : PC :=
 .seq (
 .reg [
   ⟨some 1, .box (.t 0), none⟩,
   ⟨some 2, .mov (.k (.val (.bool false))), none⟩]) (
 .seq (
 .reg [
   ⟨some 3, .faddr 0 (.t 1), none⟩,
   ⟨some 4, .load false 1 (.t 3), none⟩,
   ⟨some 5, .bin .eql (.t 4) (.k (.val (.str ⟨#[104, 116, 116, 112]⟩))), none⟩,
   ⟨some 6, .mov (.t 5), none⟩,
   ⟨some 7, .faddr 0 (.t 1), some (6, false)⟩,
   ⟨some 8, .load false 1 (.t 7), some (6, false)⟩,
   ⟨some 9, .bin .eql (.t 8) (.k (.val (.str ⟨#[104, 116, 116, 112, 115]⟩))), some (6, false)⟩,
   ⟨some 10, .pick (.t 6) (.k (.val (.bool true))) (.t 9), none⟩,
   ⟨some 2, .mov (.t 10), none⟩]) (
 .ret))
theorem ok153 : chkFn Tryz.prog 153 ir153 1 [.t 2] = true := by kernel_rfl

/-- loop.example/g00779/impl.usual -/
def ir192 : PC :=
 .seq (
 .reg [
   ⟨some 2, .mov (.k (.val (.int .i64 0))), none⟩]) (
 .seq (
 .seq (
 .reg [
   ⟨some 3, .mov (.t 0), none⟩,
   ⟨some 4, .bin .eql (.t 3) (.k (.val (.str ⟨#[104, 116, 116, 112]⟩))), none⟩]) (
 .cond (.t 4) (
  .seq (
  .reg [
    ⟨some 2, .mov (.k (.val (.int .i64 80))), none⟩]) (
  .ret)) (
  .skip))) (
 .seq (
 .reg [
   ⟨some 2, .mov (.k (.val (.int .i64 443))), none⟩]) (
 .ret)))
theorem ok192 : chkFn Tryz.prog 192 ir192 1 [.t 2] = true := by kernel_rfl

/-- loop.example/g00779/impl.decimal -/
def ir173 : PC :=
 .seq (
 .reg [
   ⟨some 2, .mov (.k (.val (.str ⟨#[]⟩))), none⟩]) (
 .seq (
 .reg [
   ⟨some 3, .mov (.t 0), none⟩,
   ⟨some 4, .call 193 [.t 3], none⟩,
   ⟨some 2, .mov (.t 4), none⟩]) (
 .ret))
theorem ok173 : chkFn Tryz.prog 173 ir173 1 [.t 2] = true := by kernel_rfl

/-- loop.example/g00779/impl.isNow -/
def ir28 : PC :=
 .seq (
 .reg [
   ⟨some 2, .mov (.k (.val (.bool false))), none⟩]) (
 .seq (
 .reg [
   ⟨some 3, .mov (.t 0), none⟩,
   ⟨some 4, .call 29 [.t 3, .k (.val (.int .i64 0)), .k (.val (.int .i64 1000000))], none⟩,
   ⟨some 2, .mov (.t 4), none⟩]) (
 .ret))
theorem ok28 : chkFn Tryz.prog 28 ir28 1 [.t 2] = true := by kernel_rfl

end Go.Proofs
end

/- Functions of the seat as data. MADE BY PROGRAM (print_ir.py). -/
section
set_option maxRecDepth 100000
namespace Go.Proofs
open Go.PW

def ir154_from7 : PC :=
 .seq (
 .seq (
 .reg [
   ⟨some 41, .faddr 7 (.t 1), none⟩,
   ⟨some 42, .load false 1 (.t 41), none⟩]) (
 .cond (.t 42) (
  .reg [
    ⟨some 43, .mov (.t 3), none⟩,
    ⟨some 44, .faddr 5 (.t 1), none⟩,
    ⟨some 45, .load false 1 (.t 44), none⟩,
    ⟨some 46, .bin .add (.k (.val (.str ⟨#[63]⟩))) (.t 45), none⟩,
    ⟨some 47, .bin .add (.t 43) (.t 46), none⟩,
    ⟨some 3, .mov (.t 47), none⟩]) (
  .skip))) (
 .seq (
 .seq (
 .reg [
   ⟨some 48, .faddr 8 (.t 1), none⟩,
   ⟨some 49, .load false 1 (.t 48), none⟩]) (
 .cond (.t 49) (
  .reg [
    ⟨some 50, .mov (.t 3), none⟩,
    ⟨some 51, .faddr 6 (.t 1), none⟩,
    ⟨some 52, .load false 1 (.t 51), none⟩,
    ⟨some 53, .bin .add (.k (.val (.str ⟨#[35]⟩))) (.t 52), none⟩,
    ⟨some 54, .bin .add (.t 50) (.t 53), none⟩,
    ⟨some 3, .mov (.t 54), none⟩]) (
  .skip))) (
 .seq (
 .reg [
   ⟨some 55, .mov (.t 3), none⟩,
   ⟨some 2, .mov (.t 55), none⟩]) (
 .ret)))
def ir154_from6 : PC :=
 .seq (
 .reg [
   ⟨some 37, .mov (.t 3), none⟩,
   ⟨some 38, .faddr 4 (.t 1), none⟩,
   ⟨some 39, .load false 1 (.t 38), none⟩,
   ⟨some 40, .bin .add (.t 37) (.t 39), none⟩,
   ⟨some 3, .mov (.t 40), none⟩]) (
 ir154_from7)
def ir154_from5 : PC :=
 .seq (
 .seq (
 .reg [
   ⟨some 28, .faddr 3 (.t 1), none⟩,
   ⟨some 29, .load false 1 (.t 28), none⟩,
   ⟨some 30, .bin .neq (.t 29) (.k (.val (.int .i64 0))), none⟩]) (
 .cond (.t 30) (
  .reg [
    ⟨some 31, .mov (.t 3), none⟩,
    ⟨some 32, .faddr 3 (.t 1), none⟩,
    ⟨some 33, .load false 1 (.t 32), none⟩,
    ⟨some 34, .call 173 [.t 33], none⟩,
    ⟨some 35, .bin .add (.k (.val (.str ⟨#[58]⟩))) (.t 34), none⟩,
    ⟨some 36, .bin .add (.t 31) (.t 35), none⟩,
    ⟨some 3, .mov (.t 36), none⟩]) (
  .skip))) (
 ir154_from6)
def ir154_from4 : PC :=
 .seq (
 .reg [
   ⟨some 24, .mov (.t 3), none⟩,
   ⟨some 25, .faddr 2 (.t 1), none⟩,
   ⟨some 26, .load false 1 (.t 25), none⟩,
   ⟨some 27, .bin .add (.t 24) (.t 26), none⟩,
   ⟨some 3, .mov (.t 27), none⟩]) (
 ir154_from5)
def ir154_from2 : PC :=
 .seq (
 .reg [
   ⟨some 13, .faddr 0 (.t 1), none⟩,
   ⟨some 14, .load false 1 (.t 13), none⟩,
   ⟨some 15, .bin .add (.t 14) (.k (.val (.str ⟨#[58, 47, 47]⟩))), none⟩,
   ⟨some 3, .mov (.t 15), none⟩]) (
 .seq (
 .seq (
 .reg [
   ⟨some 16, .faddr 1 (.t 1), none⟩,
   ⟨some 17, .load false 1 (.t 16), none⟩,
   ⟨some 18, .bin .neq (.t 17) (.k (.val (.str ⟨#[]⟩))), none⟩]) (
 .cond (.t 18) (
  .reg [
    ⟨some 19, .mov (.t 3), none⟩,
    ⟨some 20, .faddr 1 (.t 1), none⟩,
    ⟨some 21, .load false 1 (.t 20), none⟩,
    ⟨some 22, .bin .add (.t 21) (.k (.val (.str ⟨#[64]⟩))), none⟩,
    ⟨some 23, .bin .add (.t 19) (.t 22), none⟩,
    ⟨some 3, .mov (.t 23), none⟩]) (
  .skip))) (
 ir154_from4))
/-- (loop.example/g00779/impl.Url).text -/
def ir154 : PC :=
 .seq (
 .reg [
   ⟨some 1, .box (.t 0), none⟩,
   ⟨some 2, .mov (.k (.val (.str ⟨#[]⟩))), none⟩]) (
 .seq (
 .seq (
 .reg [
   ⟨some 4, .load true 9 (.t 1), none⟩,
   ⟨some 5, .call 153 [.t 4], none⟩,
   ⟨some 6, .un .not (.t 5), none⟩]) (
 .cond (.t 6) (
  .seq (
  .reg [
    ⟨some 7, .faddr 0 (.t 1), none⟩,
    ⟨some 8, .load false 1 (.t 7), none⟩,
    ⟨some 9, .bin .add (.t 8) (.k (.val (.str ⟨#[58]⟩))), none⟩,
    ⟨some 10, .faddr 4 (.t 1), none⟩,
    ⟨some 11, .load false 1 (.t 10), none⟩,
    ⟨some 12, .bin .add (.t 9) (.t 11), none⟩,
    ⟨some 2, .mov (.t 12), none⟩]) (
  .ret)) (
  .skip))) (
 ir154_from2))
theorem ok154 : chkFn Tryz.prog 154 ir154 1 [.t 2] = true := by kernel_rfl

def ir191_from4 : PC :=
 .seq (
 .reg [
   ⟨some 23, .mov (.t 4), none⟩,
   ⟨some 24, .mov (.t 5), none⟩,
   ⟨some 25, .isnil true false (.t 24), none⟩,
   ⟨some 26, .mov (.t 25), none⟩,
   ⟨some 27, .mov (.t 6), some (26, true)⟩,
   ⟨some 28, .bin .leq (.t 27) (.k (.val (.int .i64 18))), some (26, true)⟩,
   ⟨some 29, .pick (.t 26) (.t 28) (.k (.val (.bool false))), none⟩,
   ⟨some 30, .mov (.t 29), none⟩,
   ⟨some 31, .mov (.t 4), some (30, true)⟩,
   ⟨some 32, .call 193 [.t 31], some (30, true)⟩,
   ⟨some 33, .mov (.t 0), some (30, true)⟩,
   ⟨some 34, .bin .eql (.t 32) (.t 33), some (30, true)⟩,
   ⟨some 35, .pick (.t 30) (.t 34) (.k (.val (.bool false))), none⟩,
   ⟨some 2, .mov (.t 23), none⟩,
   ⟨some 3, .mov (.t 35), none⟩]) (
 .ret)
/-- loop.example/g00779/impl.number -/
def ir191 : PC :=
 .seq (
 .reg [
   ⟨some 2, .mov (.k (.val (.int .i64 0))), none⟩,
   ⟨some 3, .mov (.k (.val (.bool false))), none⟩]) (
 .seq (
 .reg [
   ⟨some 8, .mov (.t 0), none⟩,
   ⟨some 9, .call 206 [.t 8], none⟩,
   ⟨some 7, .mov (.t 9), none⟩,
   ⟨some 10, .ext 0 (.t 7), none⟩,
   ⟨some 11, .ext 1 (.t 7), none⟩,
   ⟨some 4, .mov (.t 10), none⟩,
   ⟨some 5, .mov (.t 11), none⟩]) (
 .seq (
 .reg [
   ⟨some 12, .mov (.t 0), none⟩,
   ⟨some 13, .lens (.t 12), none⟩,
   ⟨some 6, .mov (.t 13), none⟩]) (
 .seq (
 .seq (
 .reg [
   ⟨some 14, .mov (.t 0), none⟩,
   ⟨some 15, .bin .neq (.t 14) (.k (.val (.str ⟨#[]⟩))), none⟩,
   ⟨some 16, .mov (.t 15), none⟩,
   ⟨some 17, .mov (.t 0), some (16, true)⟩,
   ⟨some 18, .idx (.t 17) (.k (.val (.int .i64 0))), some (16, true)⟩,
   ⟨some 19, .bin .eql (.t 18) (.k (.val (.int .u8 45))), some (16, true)⟩,
   ⟨some 20, .pick (.t 16) (.t 19) (.k (.val (.bool false))), none⟩]) (
 .cond (.t 20) (
  .reg [
    ⟨some 21, .mov (.t 6), none⟩,
    ⟨some 22, .bin .sub (.t 21) (.k (.val (.int .i64 1))), none⟩,
    ⟨some 6, .mov (.t 22), none⟩]) (
  .skip))) (
 ir191_from4))))
theorem ok191 : chkFn Tryz.prog 191 ir191 1 [.t 2, .t 3] = true := by kernel_rfl

end Go.Proofs
end

/- Functions of the seat as data. MADE BY PROGRAM (print_ir.py). -/
section
set_option maxRecDepth 100000
namespace Go.Proofs
open Go.PW

def ir189_o36 : List POper :=
 [
  ⟨some 36, .faddr 1 (.t 1), some (35, false)⟩,
  ⟨some 37, .load false 1 (.t 36), some (35, false)⟩,
  ⟨some 38, .faddr 2 (.t 1), some (35, false)⟩,
  ⟨some 39, .load false 1 (.t 38), some (35, false)⟩,
  ⟨some 40, .bin .add (.t 37) (.t 39), some (35, false)⟩,
  ⟨some 41, .faddr 4 (.t 1), some (35, false)⟩,
  ⟨some 42, .load false 1 (.t 41), some (35, false)⟩,
  ⟨some 43, .bin .add (.t 40) (.t 42), some (35, false)⟩,
  ⟨some 44, .faddr 5 (.t 1), some (35, false)⟩,
  ⟨some 45, .load false 1 (.t 44), some (35, false)⟩,
  ⟨some 46, .bin .add (.t 43) (.t 45), some (35, false)⟩,
  ⟨some 47, .faddr 6 (.t 1), some (35, false)⟩,
  ⟨some 48, .load false 1 (.t 47), some (35, false)⟩,
  ⟨some 49, .bin .add (.t 46) (.t 48), some (35, false)⟩,
  ⟨some 50, .call 201 [.t 49], some (35, false)⟩,
  ⟨some 51, .un .not (.t 50), some (35, false)⟩,
  ⟨some 52, .pick (.t 35) (.k (.val (.bool true))) (.t 51), none⟩]
def ir189_o30 : List POper :=
 ⟨some 30, .load true 9 (.t 1), some (29, false)⟩ ::
  ⟨some 31, .call 154 [.t 30], some (29, false)⟩ ::
  ⟨some 32, .lens (.t 31), some (29, false)⟩ ::
  ⟨some 33, .bin .gtr (.t 32) (.k (.val (.int .i64 100))), some (29, false)⟩ ::
  ⟨some 34, .pick (.t 29) (.k (.val (.bool true))) (.t 33), none⟩ ::
  ⟨some 35, .mov (.t 34), none⟩ ::
  ir189_o36
def ir189_o109 : List POper :=
 [
  ⟨some 109, .faddr 8 (.t 1), some (108, true)⟩,
  ⟨some 110, .load false 1 (.t 109), some (108, true)⟩,
  ⟨some 111, .mov (.t 110), some (108, true)⟩,
  ⟨some 112, .faddr 6 (.t 1), some (111, false)⟩,
  ⟨some 113, .load false 1 (.t 112), some (111, false)⟩,
  ⟨some 114, .bin .eql (.t 113) (.k (.val (.str ⟨#[]⟩))), some (111, false)⟩,
  ⟨some 115, .pick (.t 111) (.k (.val (.bool true))) (.t 114), some (108, true)⟩,
  ⟨some 116, .pick (.t 108) (.t 115) (.k (.val (.bool false))), none⟩]
def ir189_o100 : List POper :=
 ⟨some 100, .faddr 7 (.t 1), some (99, true)⟩ ::
  ⟨some 101, .load false 1 (.t 100), some (99, true)⟩ ::
  ⟨some 102, .mov (.t 101), some (99, true)⟩ ::
  ⟨some 103, .faddr 5 (.t 1), some (102, false)⟩ ::
  ⟨some 104, .load false 1 (.t 103), some (102, false)⟩ ::
  ⟨some 105, .bin .eql (.t 104) (.k (.val (.str ⟨#[]⟩))), some (102, false)⟩ ::
  ⟨some 106, .pick (.t 102) (.k (.val (.bool true))) (.t 105), some (99, true)⟩ ::
  ⟨some 107, .pick (.t 99) (.t 106) (.k (.val (.bool false))), none⟩ ::
  ⟨some 108, .mov (.t 107), none⟩ ::
  ir189_o109
def ir189_o94 : List POper :=
 ⟨some 94, .faddr 5 (.t 1), some (93, true)⟩ ::
  ⟨some 95, .load false 1 (.t 94), some (93, true)⟩ ::
  ⟨some 96, .call 204 [.t 95, .k (.val (.str ⟨#[35]⟩))], some (93, true)⟩ ::
  ⟨some 97, .un .not (.t 96), some (93, true)⟩ ::
  ⟨some 98, .pick (.t 93) (.t 97) (.k (.val (.bool false))), none⟩ ::
  ⟨some 99, .mov (.t 98), none⟩ ::
  ir189_o100
def ir189_o89 : List POper :=
 ⟨some 89, .faddr 4 (.t 1), some (88, true)⟩ ::
  ⟨some 90, .load false 1 (.t 89), some (88, true)⟩ ::
  ⟨some 91, .call 203 [.t 90, .k (.val (.str ⟨#[47]⟩))], some (88, true)⟩ ::
  ⟨some 92, .pick (.t 88) (.t 91) (.k (.val (.bool false))), none⟩ ::
  ⟨some 93, .mov (.t 92), none⟩ ::
  ir189_o94
def ir189_o81 : List POper :=
 ⟨some 81, .faddr 3 (.t 1), some (80, true)⟩ ::
  ⟨some 82, .load false 1 (.t 81), some (80, true)⟩ ::
  ⟨some 83, .faddr 0 (.t 1), some (80, true)⟩ ::
  ⟨some 84, .load false 1 (.t 83), some (80, true)⟩ ::
  ⟨some 85, .call 192 [.t 84], some (80, true)⟩ ::
  ⟨some 86, .bin .neq (.t 82) (.t 85), some (80, true)⟩ ::
  ⟨some 87, .pick (.t 80) (.t 86) (.k (.val (.bool false))), none⟩ ::
  ⟨some 88, .mov (.t 87), none⟩ ::
  ir189_o89
def ir189_o76 : List POper :=
 ⟨some 76, .faddr 3 (.t 1), some (75, true)⟩ ::
  ⟨some 77, .load false 1 (.t 76), some (75, true)⟩ ::
  ⟨some 78, .call 29 [.t 77, .k (.val (.int .i64 0)), .k (.val (.int .i64 65535))], some (75, true)⟩ ::
  ⟨some 79, .pick (.t 75) (.t 78) (.k (.val (.bool false))), none⟩ ::
  ⟨some 80, .mov (.t 79), none⟩ ::
  ir189_o81
def ir189_from4 : PC :=
 .seq (
 .draw (
   ⟨some 66, .faddr 1 (.t 1), none⟩ ::
   ⟨some 67, .load false 1 (.t 66), none⟩ ::
   ⟨some 68, .call 114 [.t 67, .k (.val (.str ⟨#[47, 63, 35, 64]⟩))], none⟩ ::
   ⟨some 69, .un .not (.t 68), none⟩ ::
   ⟨some 70, .mov (.t 69), none⟩ ::
   ⟨some 71, .faddr 2 (.t 1), some (70, true)⟩ ::
   ⟨some 72, .load false 1 (.t 71), some (70, true)⟩ ::
   ⟨some 73, .call 202 [.t 72], some (70, true)⟩ ::
   ⟨some 74, .pick (.t 70) (.t 73) (.k (.val (.bool false))), none⟩ ::
   ⟨some 75, .mov (.t 74), none⟩ ::
   ir189_o76) [
   ⟨some 2, .mov (.t 116), none⟩]) (
 .ret)
def ir189_from3 : PC :=
 .seq (
 .seq (
 .reg [
   ⟨some 56, .load true 9 (.t 1), none⟩,
   ⟨some 57, .call 153 [.t 56], none⟩,
   ⟨some 58, .un .not (.t 57), none⟩]) (
 .cond (.t 58) (
  .seq (
  .reg [
    ⟨some 59, .load true 9 (.t 1), none⟩,
    ⟨some 60, .faddr 0 (.t 1), none⟩,
    ⟨some 61, .load false 1 (.t 60), none⟩,
    ⟨some 62, .faddr 4 (.t 1), none⟩,
    ⟨some 63, .load false 1 (.t 62), none⟩,
    ⟨some 64, .build [.val (.str ⟨#[]⟩), .val (.str ⟨#[]⟩), .val (.str ⟨#[]⟩), .val (.int .i64 0), .val (.str ⟨#[]⟩), .val (.str ⟨#[]⟩), .val (.str ⟨#[]⟩), .val (.bool false), .val (.bool false)] [(0, 1, .t 61), (4, 1, .t 63)], none⟩,
    ⟨some 65, .eqs false [0, 0, 0, 2, 0, 0, 0, 1, 1] (.t 59) (.t 64), none⟩,
    ⟨some 2, .mov (.t 65), none⟩]) (
  .ret)) (
  .skip))) (
 ir189_from4)
def ir189_from2 : PC :=
 .seq (
 .seq (
 .reg [
   ⟨some 53, .faddr 4 (.t 1), none⟩,
   ⟨some 54, .load false 1 (.t 53), none⟩,
   ⟨some 55, .call 114 [.t 54, .k (.val (.str ⟨#[63, 35]⟩))], none⟩]) (
 .cond (.t 55) (
  .seq (
  .reg [
    ⟨some 2, .mov (.k (.val (.bool false))), none⟩]) (
  .ret)) (
  .skip))) (
 ir189_from3)
/-- loop.example/g00779/impl.UrlOK -/
def ir189 : PC :=
 .seq (
 .reg [
   ⟨some 1, .box (.t 0), none⟩,
   ⟨some 2, .mov (.k (.val (.bool false))), none⟩]) (
 .seq (
 .seq (
 .reg (
   ⟨some 3, .faddr 0 (.t 1), none⟩ ::
   ⟨some 4, .load false 1 (.t 3), none⟩ ::
   ⟨some 5, .call 200 [.t 4], none⟩ ::
   ⟨some 6, .un .not (.t 5), none⟩ ::
   ⟨some 7, .mov (.t 6), none⟩ ::
   ⟨some 8, .faddr 1 (.t 1), some (7, false)⟩ ::
   ⟨some 9, .load false 1 (.t 8), some (7, false)⟩ ::
   ⟨some 10, .lens (.t 9), some (7, false)⟩ ::
   ⟨some 11, .faddr 2 (.t 1), some (7, false)⟩ ::
   ⟨some 12, .load false 1 (.t 11), some (7, false)⟩ ::
   ⟨some 13, .lens (.t 12), some (7, false)⟩ ::
   ⟨some 14, .bin .add (.t 10) (.t 13), some (7, false)⟩ ::
   ⟨some 15, .faddr 4 (.t 1), some (7, false)⟩ ::
   ⟨some 16, .load false 1 (.t 15), some (7, false)⟩ ::
   ⟨some 17, .lens (.t 16), some (7, false)⟩ ::
   ⟨some 18, .bin .add (.t 14) (.t 17), some (7, false)⟩ ::
   ⟨some 19, .faddr 5 (.t 1), some (7, false)⟩ ::
   ⟨some 20, .load false 1 (.t 19), some (7, false)⟩ ::
   ⟨some 21, .lens (.t 20), some (7, false)⟩ ::
   ⟨some 22, .bin .add (.t 18) (.t 21), some (7, false)⟩ ::
   ⟨some 23, .faddr 6 (.t 1), some (7, false)⟩ ::
   ⟨some 24, .load false 1 (.t 23), some (7, false)⟩ ::
   ⟨some 25, .lens (.t 24), some (7, false)⟩ ::
   ⟨some 26, .bin .add (.t 22) (.t 25), some (7, false)⟩ ::
   ⟨some 27, .bin .gtr (.t 26) (.k (.val (.int .i64 100))), some (7, false)⟩ ::
   ⟨some 28, .pick (.t 7) (.k (.val (.bool true))) (.t 27), none⟩ ::
   ⟨some 29, .mov (.t 28), none⟩ ::
   ir189_o30)) (
 .cond (.t 52) (
  .seq (
  .reg [
    ⟨some 2, .mov (.k (.val (.bool false))), none⟩]) (
  .ret)) (
  .skip))) (
 ir189_from2))
theorem ok189 : chkFn Tryz.prog 189 ir189 1 [.t 2] = true := by kernel_rfl

end Go.Proofs
end

/- Functions of the seat as data. MADE BY PROGRAM (print_ir.py). -/
section
set_option maxRecDepth 100000
namespace Go.Proofs
open Go.PW

def ir172_from15 : PC :=
 .seq (
 .draw [
   ⟨some 123, .load true 9 (.t 7), none⟩,
   ⟨some 124, .load true 9 (.t 7), none⟩,
   ⟨some 125, .call 189 [.t 124], none⟩] [
   ⟨none, .store 9 (.t 2) (.t 123), none⟩,
   ⟨some 3, .mov (.t 125), none⟩]) (
 .ret)
def ir172_from14 : PC :=
 .seq (
 .reg [
   ⟨some 120, .mov (.t 12), none⟩,
   ⟨some 121, .call 188 [.t 120], none⟩,
   ⟨some 122, .faddr 2 (.t 7), none⟩,
   ⟨none, .store 1 (.t 122) (.t 121), none⟩]) (
 ir172_from15)
def ir172_from13 : PC :=
 .seq (
 .seq (
 .reg [
   ⟨some 99, .mov (.t 6), none⟩]) (
 .cond (.t 99) (
  .seq (
  .reg [
    ⟨some 101, .mov (.t 13), none⟩,
    ⟨some 102, .call 191 [.t 101], none⟩,
    ⟨some 100, .mov (.t 102), none⟩,
    ⟨some 103, .ext 0 (.t 100), none⟩,
    ⟨some 104, .ext 1 (.t 100), none⟩,
    ⟨some 14, .mov (.t 103), none⟩,
    ⟨some 15, .mov (.t 104), none⟩]) (
  .seq (
  .seq (
  .reg [
    ⟨some 105, .mov (.t 15), none⟩,
    ⟨some 106, .un .not (.t 105), none⟩,
    ⟨some 107, .mov (.t 106), none⟩,
    ⟨some 108, .mov (.t 14), some (107, false)⟩,
    ⟨some 109, .call 29 [.t 108, .k (.val (.int .i64 1)), .k (.val (.int .i64 65535))], some (107, false)⟩,
    ⟨some 110, .un .not (.t 109), some (107, false)⟩,
    ⟨some 111, .pick (.t 107) (.k (.val (.bool true))) (.t 110), none⟩]) (
  .cond (.t 111) (
   .seq (
   .reg [
     ⟨some 112, .build [.val (.str ⟨#[]⟩), .val (.str ⟨#[]⟩), .val (.str ⟨#[]⟩), .val (.int .i64 0), .val (.str ⟨#[]⟩), .val (.str ⟨#[]⟩), .val (.str ⟨#[]⟩), .val (.bool false), .val (.bool false)] [], none⟩,
     ⟨none, .store 9 (.t 2) (.t 112), none⟩,
     ⟨some 3, .mov (.k (.val (.bool false))), none⟩]) (
   .ret)) (
   .skip))) (
  .seq (
  .reg [
    ⟨some 113, .mov (.t 14), none⟩,
    ⟨some 114, .faddr 0 (.t 7), none⟩,
    ⟨some 115, .load false 1 (.t 114), none⟩,
    ⟨some 116, .call 192 [.t 115], none⟩,
    ⟨some 117, .bin .neq (.t 113) (.t 116), none⟩]) (
  .cond (.t 117) (
   .reg [
     ⟨some 118, .mov (.t 14), none⟩,
     ⟨some 119, .faddr 3 (.t 7), none⟩,
     ⟨none, .store 1 (.t 119) (.t 118), none⟩]) (
   .skip))))) (
  .skip))) (
 ir172_from14)
def ir172_from12 : PC :=
 .seq (
 .reg [
   ⟨some 94, .mov (.t 5), none⟩,
   ⟨some 95, .call 187 [.t 94, .k (.val (.str ⟨#[58]⟩))], none⟩,
   ⟨some 93, .mov (.t 95), none⟩,
   ⟨some 96, .ext 0 (.t 93), none⟩,
   ⟨some 97, .ext 1 (.t 93), none⟩,
   ⟨some 98, .ext 2 (.t 93), none⟩,
   ⟨some 12, .mov (.t 96), none⟩,
   ⟨some 13, .mov (.t 97), none⟩,
   ⟨some 6, .mov (.t 98), none⟩]) (
 ir172_from13)
def ir172_from11 : PC :=
 .seq (
 .seq (
 .reg [
   ⟨some 84, .mov (.t 5), none⟩,
   ⟨some 85, .call 187 [.t 84, .k (.val (.str ⟨#[64]⟩))], none⟩,
   ⟨some 83, .mov (.t 85), none⟩,
   ⟨some 86, .ext 0 (.t 83), none⟩,
   ⟨some 87, .ext 1 (.t 83), none⟩,
   ⟨some 88, .ext 2 (.t 83), none⟩,
   ⟨some 9, .mov (.t 86), none⟩,
   ⟨some 10, .mov (.t 87), none⟩,
   ⟨some 11, .mov (.t 88), none⟩]) (
 .seq (
 .reg [
   ⟨some 89, .mov (.t 11), none⟩]) (
 .cond (.t 89) (
  .reg [
    ⟨some 90, .mov (.t 9), none⟩,
    ⟨some 91, .mov (.t 10), none⟩,
    ⟨some 92, .faddr 1 (.t 7), none⟩,
    ⟨none, .store 1 (.t 92) (.t 90), none⟩,
    ⟨some 5, .mov (.t 91), none⟩]) (
  .skip)))) (
 ir172_from12)
def ir172_from10 : PC :=
 .seq (
 .seq (
 .reg [
   ⟨some 72, .mov (.t 5), none⟩,
   ⟨some 73, .call 183 [.t 72, .k (.val (.int .u8 47))], none⟩,
   ⟨some 8, .mov (.t 73), none⟩]) (
 .seq (
 .reg [
   ⟨some 74, .mov (.t 8), none⟩,
   ⟨some 75, .bin .geq (.t 74) (.k (.val (.int .i64 0))), none⟩]) (
 .cond (.t 75) (
  .draw [
    ⟨some 76, .mov (.t 5), none⟩,
    ⟨some 77, .mov (.t 8), none⟩,
    ⟨some 78, .slc 0 (.t 76) none (some (.t 77)), none⟩,
    ⟨some 79, .mov (.t 5), none⟩,
    ⟨some 80, .mov (.t 8), none⟩,
    ⟨some 81, .slc 0 (.t 79) (some (.t 80)) none, none⟩,
    ⟨some 5, .mov (.t 78), none⟩] [
    ⟨some 82, .faddr 4 (.t 7), none⟩,
    ⟨none, .store 1 (.t 82) (.t 81), none⟩]) (
  .skip)))) (
 ir172_from11)
def ir172_from7 : PC :=
 .seq (
 .reg [
   ⟨some 56, .mov (.t 5), none⟩,
   ⟨some 57, .call 187 [.t 56, .k (.val (.str ⟨#[35]⟩))], none⟩,
   ⟨some 55, .mov (.t 57), none⟩,
   ⟨some 58, .ext 0 (.t 55), none⟩,
   ⟨some 59, .ext 1 (.t 55), none⟩,
   ⟨some 60, .ext 2 (.t 55), none⟩,
   ⟨some 5, .mov (.t 58), none⟩,
   ⟨some 61, .faddr 6 (.t 7), none⟩,
   ⟨none, .store 1 (.t 61) (.t 59), none⟩,
   ⟨some 62, .faddr 8 (.t 7), none⟩,
   ⟨none, .store 1 (.t 62) (.t 60), none⟩]) (
 .seq (
 .reg [
   ⟨some 64, .mov (.t 5), none⟩,
   ⟨some 65, .call 187 [.t 64, .k (.val (.str ⟨#[63]⟩))], none⟩,
   ⟨some 63, .mov (.t 65), none⟩,
   ⟨some 66, .ext 0 (.t 63), none⟩,
   ⟨some 67, .ext 1 (.t 63), none⟩,
   ⟨some 68, .ext 2 (.t 63), none⟩,
   ⟨some 5, .mov (.t 66), none⟩,
   ⟨some 69, .faddr 5 (.t 7), none⟩,
   ⟨none, .store 1 (.t 69) (.t 67), none⟩,
   ⟨some 70, .faddr 7 (.t 7), none⟩,
   ⟨none, .store 1 (.t 70) (.t 68), none⟩]) (
 .seq (
 .reg [
   ⟨some 71, .faddr 4 (.t 7), none⟩,
   ⟨none, .store 1 (.t 71) (.k (.val (.str ⟨#[47]⟩))), none⟩]) (
 ir172_from10)))
def ir172_from4 : PC :=
 .seq (
 .seq (
 .reg [
   ⟨some 28, .load true 9 (.t 7), none⟩,
   ⟨some 29, .call 153 [.t 28], none⟩,
   ⟨some 30, .un .not (.t 29), none⟩]) (
 .cond (.t 30) (
  .seq (
  .reg [
    ⟨some 32, .mov (.t 5), none⟩,
    ⟨some 33, .call 187 [.t 32, .k (.val (.str ⟨#[35]⟩))], none⟩,
    ⟨some 31, .mov (.t 33), none⟩,
    ⟨some 34, .ext 0 (.t 31), none⟩,
    ⟨some 35, .ext 1 (.t 31), none⟩,
    ⟨some 36, .ext 2 (.t 31), none⟩,
    ⟨some 5, .mov (.t 34), none⟩]) (
  .seq (
  .reg [
    ⟨some 38, .mov (.t 5), none⟩,
    ⟨some 39, .call 187 [.t 38, .k (.val (.str ⟨#[63]⟩))], none⟩,
    ⟨some 37, .mov (.t 39), none⟩,
    ⟨some 40, .ext 0 (.t 37), none⟩,
    ⟨some 41, .ext 1 (.t 37), none⟩,
    ⟨some 42, .ext 2 (.t 37), none⟩,
    ⟨some 43, .faddr 4 (.t 7), none⟩,
    ⟨none, .store 1 (.t 43) (.t 40), none⟩]) (
  .seq (
  .draw [
    ⟨some 44, .load true 9 (.t 7), none⟩,
    ⟨some 45, .load true 9 (.t 7), none⟩,
    ⟨some 46, .call 189 [.t 45], none⟩] [
    ⟨none, .store 9 (.t 2) (.t 44), none⟩,
    ⟨some 3, .mov (.t 46), none⟩]) (
  .ret)))) (
  .skip))) (
 .seq (
 .reg [
   ⟨some 48, .mov (.t 5), none⟩,
   ⟨some 49, .call 190 [.t 48, .k (.val (.str ⟨#[47, 47]⟩))], none⟩,
   ⟨some 47, .mov (.t 49), none⟩,
   ⟨some 50, .ext 0 (.t 47), none⟩,
   ⟨some 51, .ext 1 (.t 47), none⟩,
   ⟨some 5, .mov (.t 50), none⟩,
   ⟨some 6, .mov (.t 51), none⟩]) (
 .seq (
 .seq (
 .reg [
   ⟨some 52, .mov (.t 6), none⟩,
   ⟨some 53, .un .not (.t 52), none⟩]) (
 .cond (.t 53) (
  .seq (
  .reg [
    ⟨some 54, .build [.val (.str ⟨#[]⟩), .val (.str ⟨#[]⟩), .val (.str ⟨#[]⟩), .val (.int .i64 0), .val (.str ⟨#[]⟩), .val (.str ⟨#[]⟩), .val (.str ⟨#[]⟩), .val (.bool false), .val (.bool false)] [], none⟩,
    ⟨none, .store 9 (.t 2) (.t 54), none⟩,
    ⟨some 3, .mov (.k (.val (.bool false))), none⟩]) (
  .ret)) (
  .skip))) (
 ir172_from7)))
/-- loop.example/g00779/impl.parse -/
def ir172 : PC :=
 .seq (
 .reg [
   ⟨some 2, .alloc [.val (.str ⟨#[]⟩), .val (.str ⟨#[]⟩), .val (.str ⟨#[]⟩), .val (.int .i64 0), .val (.str ⟨#[]⟩), .val (.str ⟨#[]⟩), .val (.str ⟨#[]⟩), .val (.bool false), .val (.bool false)], none⟩,
   ⟨some 3, .mov (.k (.val (.bool false))), none⟩]) (
 .seq (
 .reg [
   ⟨some 17, .mov (.t 0), none⟩,
   ⟨some 18, .call 187 [.t 17, .k (.val (.str ⟨#[58]⟩))], none⟩,
   ⟨some 16, .mov (.t 18), none⟩,
   ⟨some 19, .ext 0 (.t 16), none⟩,
   ⟨some 20, .ext 1 (.t 16), none⟩,
   ⟨some 21, .ext 2 (.t 16), none⟩,
   ⟨some 4, .mov (.t 19), none⟩,
   ⟨some 5, .mov (.t 20), none⟩,
   ⟨some 6, .mov (.t 21), none⟩]) (
 .seq (
 .reg [
   ⟨some 22, .mov (.t 4), none⟩,
   ⟨some 23, .call 188 [.t 22], none⟩,
   ⟨some 24, .build [.val (.str ⟨#[]⟩), .val (.str ⟨#[]⟩), .val (.str ⟨#[]⟩), .val (.int .i64 0), .val (.str ⟨#[]⟩), .val (.str ⟨#[]⟩), .val (.str ⟨#[]⟩), .val (.bool false), .val (.bool false)] [(0, 1, .t 23)], none⟩,
   ⟨some 7, .alloc [.val (.str ⟨#[]⟩), .val (.str ⟨#[]⟩), .val (.str ⟨#[]⟩), .val (.int .i64 0), .val (.str ⟨#[]⟩), .val (.str ⟨#[]⟩), .val (.str ⟨#[]⟩), .val (.bool false), .val (.bool false)], none⟩,
   ⟨none, .store 9 (.t 7) (.t 24), none⟩]) (
 .seq (
 .seq (
 .reg [
   ⟨some 25, .mov (.t 6), none⟩,
   ⟨some 26, .un .not (.t 25), none⟩]) (
 .cond (.t 26) (
  .seq (
  .reg [
    ⟨some 27, .build [.val (.str ⟨#[]⟩), .val (.str ⟨#[]⟩), .val (.str ⟨#[]⟩), .val (.int .i64 0), .val (.str ⟨#[]⟩), .val (.str ⟨#[]⟩), .val (.str ⟨#[]⟩), .val (.bool false), .val (.bool false)] [], none⟩,
    ⟨none, .store 9 (.t 2) (.t 27), none⟩,
    ⟨some 3, .mov (.k (.val (.bool false))), none⟩]) (
  .ret)) (
  .skip))) (
 ir172_from4))))
theorem ok172 : chkFn Tryz.prog 172 ir172 1 [.c 2 true 9, .t 3] = true := by kernel_rfl

end Go.Proofs
end

/- Functions of the seat as data. MADE BY PROGRAM (print_ir.py). -/
section
set_option maxRecDepth 100000
namespace Go.Proofs
open Go.PW

/-- loop.example/g00779/impl.ParseUrl -/
def ir152 : PC :=
 .seq (
 .reg [
   ⟨some 2, .alloc [.val (.str ⟨#[]⟩), .val (.str ⟨#[]⟩), .val (.str ⟨#[]⟩), .val (.int .i64 0), .val (.str ⟨#[]⟩), .val (.str ⟨#[]⟩), .val (.str ⟨#[]⟩), .val (.bool false), .val (.bool false)], none⟩,
   ⟨some 3, .mov (.k (.val (.int .i64 0))), none⟩]) (
 .seq (
 .seq (
 .reg [
   ⟨some 7, .mov (.t 0), none⟩,
   ⟨some 8, .call 42 [.t 7], none⟩,
   ⟨some 4, .mov (.t 8), none⟩]) (
 .seq (
 .reg [
   ⟨some 9, .mov (.t 4), none⟩,
   ⟨some 10, .bin .neq (.t 9) (.k (.val (.int .i64 0))), none⟩]) (
 .cond (.t 10) (
  .seq (
  .reg [
    ⟨some 11, .build [.val (.str ⟨#[]⟩), .val (.str ⟨#[]⟩), .val (.str ⟨#[]⟩), .val (.int .i64 0), .val (.str ⟨#[]⟩), .val (.str ⟨#[]⟩), .val (.str ⟨#[]⟩), .val (.bool false), .val (.bool false)] [], none⟩,
    ⟨some 12, .mov (.t 4), none⟩,
    ⟨none, .store 9 (.t 2) (.t 11), none⟩,
    ⟨some 3, .mov (.t 12), none⟩]) (
  .ret)) (
  .skip)))) (
 .seq (
 .reg [
   ⟨some 14, .mov (.t 0), none⟩,
   ⟨some 15, .call 172 [.t 14], none⟩,
   ⟨some 13, .mov (.t 15), none⟩,
   ⟨some 16, .ext 0 (.t 13), none⟩,
   ⟨some 17, .ext 1 (.t 13), none⟩,
   ⟨some 5, .alloc [.val (.str ⟨#[]⟩), .val (.str ⟨#[]⟩), .val (.str ⟨#[]⟩), .val (.int .i64 0), .val (.str ⟨#[]⟩), .val (.str ⟨#[]⟩), .val (.str ⟨#[]⟩), .val (.bool false), .val (.bool false)], none⟩,
   ⟨none, .store 9 (.t 5) (.t 16), none⟩,
   ⟨some 6, .mov (.t 17), none⟩]) (
 .seq (
 .seq (
 .reg [
   ⟨some 18, .mov (.t 6), none⟩,
   ⟨some 19, .un .not (.t 18), none⟩]) (
 .cond (.t 19) (
  .seq (
  .reg [
    ⟨some 20, .build [.val (.str ⟨#[]⟩), .val (.str ⟨#[]⟩), .val (.str ⟨#[]⟩), .val (.int .i64 0), .val (.str ⟨#[]⟩), .val (.str ⟨#[]⟩), .val (.str ⟨#[]⟩), .val (.bool false), .val (.bool false)] [], none⟩,
    ⟨none, .store 9 (.t 2) (.t 20), none⟩,
    ⟨some 3, .mov (.k (.val (.int .i64 3))), none⟩]) (
  .ret)) (
  .skip))) (
 .seq (
 .reg [
   ⟨some 21, .load true 9 (.t 5), none⟩,
   ⟨none, .store 9 (.t 2) (.t 21), none⟩,
   ⟨some 3, .mov (.k (.val (.int .i64 0))), none⟩]) (
 .ret)))))
theorem ok152 : chkFn Tryz.prog 152 ir152 1 [.c 2 true 9, .t 3] = true := by kernel_rfl

def ir117_from4 : PC :=
 .seq (
 .reg [
   ⟨some 20, .load true 9 (.t 4), none⟩,
   ⟨some 21, .call 154 [.t 20], none⟩,
   ⟨some 2, .mov (.t 21), none⟩,
   ⟨some 3, .mov (.k (.val (.bool true))), none⟩]) (
 .ret)
/-- loop.example/g00779/impl.clean -/
def ir117 : PC :=
 .seq (
 .reg [
   ⟨some 2, .mov (.k (.val (.str ⟨#[]⟩))), none⟩,
   ⟨some 3, .mov (.k (.val (.bool false))), none⟩]) (
 .seq (
 .reg [
   ⟨some 7, .mov (.t 0), none⟩,
   ⟨some 8, .call 152 [.t 7], none⟩,
   ⟨some 6, .mov (.t 8), none⟩,
   ⟨some 9, .ext 0 (.t 6), none⟩,
   ⟨some 10, .ext 1 (.t 6), none⟩,
   ⟨some 4, .alloc [.val (.str ⟨#[]⟩), .val (.str ⟨#[]⟩), .val (.str ⟨#[]⟩), .val (.int .i64 0), .val (.str ⟨#[]⟩), .val (.str ⟨#[]⟩), .val (.str ⟨#[]⟩), .val (.bool false), .val (.bool false)], none⟩,
   ⟨none, .store 9 (.t 4) (.t 9), none⟩,
   ⟨some 5, .mov (.t 10), none⟩]) (
 .seq (
 .seq (
 .reg [
   ⟨some 11, .mov (.t 5), none⟩,
   ⟨some 12, .bin .neq (.t 11) (.k (.val (.int .i64 0))), none⟩,
   ⟨some 13, .mov (.t 12), none⟩,
   ⟨some 14, .load true 9 (.t 4), some (13, false)⟩,
   ⟨some 15, .call 153 [.t 14], some (13, false)⟩,
   ⟨some 16, .un .not (.t 15), some (13, false)⟩,
   ⟨some 17, .pick (.t 13) (.k (.val (.bool true))) (.t 16), none⟩]) (
 .cond (.t 17) (
  .seq (
  .reg [
    ⟨some 2, .mov (.k (.val (.str ⟨#[]⟩))), none⟩,
    ⟨some 3, .mov (.k (.val (.bool false))), none⟩]) (
  .ret)) (
  .skip))) (
 .seq (
 .reg [
   ⟨some 18, .faddr 6 (.t 4), none⟩,
   ⟨none, .store 1 (.t 18) (.k (.val (.str ⟨#[]⟩))), none⟩,
   ⟨some 19, .faddr 8 (.t 4), none⟩,
   ⟨none, .store 1 (.t 19) (.k (.val (.bool false))), none⟩]) (
 ir117_from4))))
theorem ok117 : chkFn Tryz.prog 117 ir117 1 [.t 2, .t 3] = true := by kernel_rfl

def ir122_o18 : List POper :=
 [
  ⟨some 18, .mov (.t 17), none⟩,
  ⟨some 19, .faddr 1 (.t 1), some (18, true)⟩,
  ⟨some 20, .load false 1 (.t 19), some (18, true)⟩,
  ⟨some 21, .call 29 [.t 20, .k (.val (.int .i64 1)), .k (.val (.int .i64 9))], some (18, true)⟩,
  ⟨some 22, .pick (.t 18) (.t 21) (.k (.val (.bool false))), none⟩,
  ⟨some 23, .mov (.t 22), none⟩,
  ⟨some 24, .faddr 2 (.t 1), some (23, true)⟩,
  ⟨some 25, .load false 1 (.t 24), some (23, true)⟩,
  ⟨some 26, .call 29 [.t 25, .k (.val (.int .i64 1)), .k (.val (.int .i64 9))], some (23, true)⟩,
  ⟨some 27, .pick (.t 23) (.t 26) (.k (.val (.bool false))), none⟩,
  ⟨some 2, .mov (.t 27), none⟩]
/-- loop.example/g00779/impl.targetOK -/
def ir122 : PC :=
 .seq (
 .reg [
   ⟨some 1, .box (.t 0), none⟩,
   ⟨some 2, .mov (.k (.val (.bool false))), none⟩]) (
 .seq (
 .reg [
   ⟨some 6, .faddr 0 (.t 1), none⟩,
   ⟨some 7, .load false 1 (.t 6), none⟩,
   ⟨some 8, .call 117 [.t 7], none⟩,
   ⟨some 5, .mov (.t 8), none⟩,
   ⟨some 9, .ext 0 (.t 5), none⟩,
   ⟨some 10, .ext 1 (.t 5), none⟩,
   ⟨some 3, .mov (.t 9), none⟩,
   ⟨some 4, .mov (.t 10), none⟩]) (
 .seq (
 .reg (
   ⟨some 11, .mov (.t 4), none⟩ ::
   ⟨some 12, .mov (.t 11), none⟩ ::
   ⟨some 13, .mov (.t 3), some (12, true)⟩ ::
   ⟨some 14, .faddr 0 (.t 1), some (12, true)⟩ ::
   ⟨some 15, .load false 1 (.t 14), some (12, true)⟩ ::
   ⟨some 16, .bin .eql (.t 13) (.t 15), some (12, true)⟩ ::
   ⟨some 17, .pick (.t 12) (.t 16) (.k (.val (.bool false))), none⟩ ::
   ir122_o18)) (
 .ret)))
theorem ok122 : chkFn Tryz.prog 122 ir122 1 [.t 2] = true := by kernel_rfl

/-- loop.example/g00779/impl.hasUrl$1 -/
def ir174 : PC :=
 .seq (
 .reg [
   ⟨some 2, .box (.t 0), none⟩,
   ⟨some 3, .mov (.k (.val (.bool false))), none⟩]) (
 .seq (
 .reg [
   ⟨some 4, .faddr 0 (.t 2), none⟩,
   ⟨some 5, .load false 1 (.t 4), none⟩,
   ⟨some 6, .load false 1 (.t 1), none⟩,
   ⟨some 7, .bin .eql (.t 5) (.t 6), none⟩,
   ⟨some 3, .mov (.t 7), none⟩]) (
 .ret))
theorem ok174 : chkFn Tryz.prog 174 ir174 2 [.t 3] = true := by kernel_rfl

/-- slices.IndexFunc[[]loop.example/g00779/impl.Target,loop.example/g00779/impl.Target] -/
def ir157 : PC :=
 .seq (
 .reg [
   ⟨some 4, .mov (.k (.val (.int .i64 0))), none⟩]) (
 .seq (
 .seq (
 .reg [
   ⟨some 6, .mov (.t 0), none⟩,
   ⟨some 7, .len (.t 6), none⟩,
   ⟨some 8, .mov (.k (.val (.int .i64 0))), none⟩]) (
 .block 0 (
  .loop (.ghost (
   .seq (
   .reg [
     ⟨some 9, .bin .lss (.t 8) (.t 7), none⟩]) (
   .seq (
   .cond (.t 9) (
    .skip) (
    .exit 0)) (
   .seq (
   .block 1 (
    .seq (
    .reg [
      ⟨some 10, .mov (.t 8), none⟩,
      ⟨some 5, .mov (.t 10), none⟩]) (
    .seq (
    .reg [
      ⟨some 11, .mov (.t 1), none⟩,
      ⟨some 12, .mov (.t 0), none⟩,
      ⟨some 13, .mov (.t 5), none⟩,
      ⟨some 14, .iaddr 3 (.t 12) (.t 13), none⟩,
      ⟨some 15, .load true 3 (.t 14), none⟩,
      ⟨some 16, .callv (.t 11) [.t 15], none⟩]) (
    .cond (.t 16) (
     .seq (
     .reg [
       ⟨some 17, .mov (.t 5), none⟩,
       ⟨some 4, .mov (.t 17), none⟩]) (
     .ret)) (
     .skip))))) (
   .reg [
     ⟨some 18, .bin .add (.t 8) (.k (.val (.int .i64 1))), none⟩,
     ⟨some 8, .mov (.t 18), none⟩])))))))) (
 .seq (
 .reg [
   ⟨some 4, .mov (.k (.val (.int .i64 (-1)))), none⟩]) (
 .ret)))
theorem ok157 : chkFn Tryz.prog 157 ir157 2 [.t 4] = true := by kernel_rfl

/-- slices.ContainsFunc[[]loop.example/g00779/impl.Target,loop.example/g00779/impl.Target] -/
def ir120 : PC :=
 .seq (
 .reg [
   ⟨some 4, .mov (.k (.val (.bool false))), none⟩]) (
 .seq (
 .reg [
   ⟨some 5, .mov (.t 0), none⟩,
   ⟨some 6, .mov (.t 1), none⟩,
   ⟨some 7, .call 157 [.t 5, .t 6], none⟩,
   ⟨some 8, .bin .geq (.t 7) (.k (.val (.int .i64 0))), none⟩,
   ⟨some 4, .mov (.t 8), none⟩]) (
 .ret))
theorem ok120 : chkFn Tryz.prog 120 ir120 2 [.t 4] = true := by kernel_rfl

/-- loop.example/g00779/impl.hasUrl -/
def ir156 : PC :=
 .seq (
 .reg [
   ⟨some 3, .box (.t 1), none⟩,
   ⟨some 4, .mov (.k (.val (.bool false))), none⟩]) (
 .seq (
 .reg [
   ⟨some 5, .mov (.t 0), none⟩,
   ⟨some 6, .mkfn 174 [.t 3], none⟩,
   ⟨some 7, .call 120 [.t 5, .t 6], none⟩,
   ⟨some 4, .mov (.t 7), none⟩]) (
 .ret))
theorem ok156 : chkFn Tryz.prog 156 ir156 2 [.t 4] = true := by kernel_rfl

/-- loop.example/g00779/impl.areUnlike -/
def ir119 : PC :=
 .seq (
 .reg [
   ⟨some 2, .mov (.k (.val (.bool false))), none⟩]) (
 .seq (
 .seq (
 .reg [
   ⟨some 5, .mov (.t 0), none⟩,
   ⟨some 6, .len (.t 5), none⟩,
   ⟨some 7, .mov (.k (.val (.int .i64 0))), none⟩]) (
 .block 0 (
  .loop (.ghost (
   .seq (
   .reg [
     ⟨some 8, .bin .lss (.t 7) (.t 6), none⟩]) (
   .seq (
   .cond (.t 8) (
    .skip) (
    .exit 0)) (
   .seq (
   .block 1 (
    .seq (
    .reg [
      ⟨some 9, .mov (.t 7), none⟩,
      ⟨some 10, .iaddr 3 (.t 5) (.t 7), none⟩,
      ⟨some 11, .load true 3 (.t 10), none⟩,
      ⟨some 4, .alloc [.val (.str ⟨#[]⟩), .val (.int .i64 0), .val (.int .i64 0)], none⟩,
      ⟨some 3, .mov (.t 9), none⟩,
      ⟨none, .store 3 (.t 4) (.t 11), none⟩]) (
    .seq (
    .draw [
      ⟨some 12, .mov (.t 0), none⟩,
      ⟨some 13, .mov (.t 3), none⟩,
      ⟨some 14, .slc 3 (.t 12) none (some (.t 13)), none⟩,
      ⟨some 15, .faddr 0 (.t 4), none⟩,
      ⟨some 16, .load false 1 (.t 15), none⟩] [
      ⟨some 17, .call 156 [.t 14, .t 16], none⟩]) (
    .cond (.t 17) (
     .seq (
     .reg [
       ⟨some 2, .mov (.k (.val (.bool false))), none⟩]) (
     .ret)) (
     .skip))))) (
   .reg [
     ⟨some 18, .bin .add (.t 7) (.k (.val (.int .i64 1))), none⟩,
     ⟨some 7, .mov (.t 18), none⟩])))))))) (
 .seq (
 .reg [
   ⟨some 2, .mov (.k (.val (.bool true))), none⟩]) (
 .ret)))
theorem ok119 : chkFn Tryz.prog 119 ir119 1 [.t 2] = true := by kernel_rfl

/-- loop.example/g00779/impl.targetsOf -/
def ir72 : PC :=
 .seq (
 .reg [
   ⟨some 2, .mov (.k (.emp 3)), none⟩]) (
 .seq (
 .reg [
   ⟨some 6, .lit 88 3 [], none⟩,
   ⟨some 3, .mov (.t 6), none⟩]) (
 .seq (
 .seq (
 .reg [
   ⟨some 7, .mov (.t 0), none⟩,
   ⟨some 8, .len (.t 7), none⟩,
   ⟨some 9, .mov (.k (.val (.int .i64 0))), none⟩]) (
 .block 0 (
  .loop (.ghost (
   .seq (
   .reg [
     ⟨some 10, .bin .lss (.t 9) (.t 8), none⟩]) (
   .seq (
   .cond (.t 10) (
    .skip) (
    .exit 0)) (
   .seq (
   .block 1 (
    .seq (
    .reg [
      ⟨some 11, .iaddr 6 (.t 7) (.t 9), none⟩,
      ⟨some 12, .load true 6 (.t 11), none⟩,
      ⟨some 5, .alloc [.val (.str ⟨#[]⟩), .val (.int .i64 0), .val (.int .i64 0), .val (.int .i64 0), .val (.int .i64 0), .val (.bool false)], none⟩,
      ⟨none, .store 6 (.t 5) (.t 12), none⟩]) (
    .reg [
      ⟨some 13, .mov (.t 3), none⟩,
      ⟨some 14, .faddr 0 (.t 5), none⟩,
      ⟨some 15, .load true 3 (.t 14), none⟩,
      ⟨some 16, .lit 88 3 [.t 15], none⟩,
      ⟨some 17, .app 88 3 32 (.t 13) (.t 16), none⟩,
      ⟨some 3, .mov (.t 17), none⟩]))) (
   .reg [
     ⟨some 18, .bin .add (.t 9) (.k (.val (.int .i64 1))), none⟩,
     ⟨some 9, .mov (.t 18), none⟩])))))))) (
 .seq (
 .reg [
   ⟨some 19, .mov (.t 3), none⟩,
   ⟨some 2, .mov (.t 19), none⟩]) (
 .ret))))
theorem ok72 : chkFn Tryz.prog 72 ir72 1 [.t 2] = true := by kernel_rfl

def ir123_o20 : List POper :=
 [
  ⟨some 20, .faddr 3 (.t 1), some (19, false)⟩,
  ⟨some 21, .load false 1 (.t 20), some (19, false)⟩,
  ⟨some 22, .bin .eql (.t 21) (.k (.val (.int .i64 0))), some (19, false)⟩,
  ⟨some 23, .mov (.t 22), some (19, false)⟩,
  ⟨some 24, .faddr 4 (.t 1), some (23, true)⟩,
  ⟨some 25, .load false 1 (.t 24), some (23, true)⟩,
  ⟨some 26, .bin .neq (.t 25) (.k (.val (.int .i64 0))), some (23, true)⟩,
  ⟨some 27, .pick (.t 23) (.t 26) (.k (.val (.bool false))), some (19, false)⟩,
  ⟨some 28, .pick (.t 19) (.k (.val (.bool true))) (.t 27), none⟩,
  ⟨some 2, .mov (.t 28), none⟩]
def ir123_o14 : List POper :=
 ⟨some 14, .faddr 4 (.t 1), some (13, false)⟩ ::
  ⟨some 15, .load false 1 (.t 14), some (13, false)⟩ ::
  ⟨some 16, .call 29 [.t 15, .k (.val (.int .i64 0)), .k (.val (.int .i64 1000032))], some (13, false)⟩ ::
  ⟨some 17, .un .not (.t 16), some (13, false)⟩ ::
  ⟨some 18, .pick (.t 13) (.k (.val (.bool true))) (.t 17), none⟩ ::
  ⟨some 19, .mov (.t 18), none⟩ ::
  ir123_o20
def ir123_o8 : List POper :=
 ⟨some 8, .faddr 3 (.t 1), some (7, false)⟩ ::
  ⟨some 9, .load false 1 (.t 8), some (7, false)⟩ ::
  ⟨some 10, .call 29 [.t 9, .k (.val (.int .i64 0)), .k (.val (.int .i64 1000000))], some (7, false)⟩ ::
  ⟨some 11, .un .not (.t 10), some (7, false)⟩ ::
  ⟨some 12, .pick (.t 7) (.k (.val (.bool true))) (.t 11), none⟩ ::
  ⟨some 13, .mov (.t 12), none⟩ ::
  ir123_o14
/-- loop.example/g00779/impl.PeersOK$1 -/
def ir123 : PC :=
 .seq (
 .reg [
   ⟨some 1, .box (.t 0), none⟩,
   ⟨some 2, .mov (.k (.val (.bool false))), none⟩]) (
 .seq (
 .reg (
   ⟨some 3, .faddr 0 (.t 1), none⟩ ::
   ⟨some 4, .load true 3 (.t 3), none⟩ ::
   ⟨some 5, .call 122 [.t 4], none⟩ ::
   ⟨some 6, .un .not (.t 5), none⟩ ::
   ⟨some 7, .mov (.t 6), none⟩ ::
   ir123_o8)) (
 .ret))
theorem ok123 : chkFn Tryz.prog 123 ir123 1 [.t 2] = true := by kernel_rfl

/-- slices.IndexFunc[[]loop.example/g00779/impl.Peer,loop.example/g00779/impl.Peer] -/
def ir87 : PC :=
 .seq (
 .reg [
   ⟨some 4, .mov (.k (.val (.int .i64 0))), none⟩]) (
 .seq (
 .seq (
 .reg [
   ⟨some 6, .mov (.t 0), none⟩,
   ⟨some 7, .len (.t 6), none⟩,
   ⟨some 8, .mov (.k (.val (.int .i64 0))), none⟩]) (
 .block 0 (
  .loop (.ghost (
   .seq (
   .reg [
     ⟨some 9, .bin .lss (.t 8) (.t 7), none⟩]) (
   .seq (
   .cond (.t 9) (
    .skip) (
    .exit 0)) (
   .seq (
   .block 1 (
    .seq (
    .reg [
      ⟨some 10, .mov (.t 8), none⟩,
      ⟨some 5, .mov (.t 10), none⟩]) (
    .seq (
    .reg [
      ⟨some 11, .mov (.t 1), none⟩,
      ⟨some 12, .mov (.t 0), none⟩,
      ⟨some 13, .mov (.t 5), none⟩,
      ⟨some 14, .iaddr 6 (.t 12) (.t 13), none⟩,
      ⟨some 15, .load true 6 (.t 14), none⟩,
      ⟨some 16, .callv (.t 11) [.t 15], none⟩]) (
    .cond (.t 16) (
     .seq (
     .reg [
       ⟨some 17, .mov (.t 5), none⟩,
       ⟨some 4, .mov (.t 17), none⟩]) (
     .ret)) (
     .skip))))) (
   .reg [
     ⟨some 18, .bin .add (.t 8) (.k (.val (.int .i64 1))), none⟩,
     ⟨some 8, .mov (.t 18), none⟩])))))))) (
 .seq (
 .reg [
   ⟨some 4, .mov (.k (.val (.int .i64 (-1)))), none⟩]) (
 .ret)))
theorem ok87 : chkFn Tryz.prog 87 ir87 2 [.t 4] = true := by kernel_rfl

/-- slices.ContainsFunc[[]loop.example/g00779/impl.Peer,loop.example/g00779/impl.Peer] -/
def ir44 : PC :=
 .seq (
 .reg [
   ⟨some 4, .mov (.k (.val (.bool false))), none⟩]) (
 .seq (
 .reg [
   ⟨some 5, .mov (.t 0), none⟩,
   ⟨some 6, .mov (.t 1), none⟩,
   ⟨some 7, .call 87 [.t 5, .t 6], none⟩,
   ⟨some 8, .bin .geq (.t 7) (.k (.val (.int .i64 0))), none⟩,
   ⟨some 4, .mov (.t 8), none⟩]) (
 .ret))
theorem ok44 : chkFn Tryz.prog 44 ir44 2 [.t 4] = true := by kernel_rfl

/-- loop.example/g00779/impl.PeersOK -/
def ir70 : PC :=
 .seq (
 .reg [
   ⟨some 2, .mov (.k (.val (.bool false))), none⟩]) (
 .seq (
 .seq (
 .reg [
   ⟨some 3, .mov (.t 0), none⟩,
   ⟨some 4, .len (.t 3), none⟩,
   ⟨some 5, .bin .gtr (.t 4) (.k (.val (.int .i64 4))), none⟩,
   ⟨some 6, .mov (.t 5), none⟩,
   ⟨some 7, .mov (.t 0), some (6, false)⟩,
   ⟨some 8, .call 72 [.t 7], some (6, false)⟩,
   ⟨some 9, .call 119 [.t 8], some (6, false)⟩,
   ⟨some 10, .un .not (.t 9), some (6, false)⟩,
   ⟨some 11, .pick (.t 6) (.k (.val (.bool true))) (.t 10), none⟩]) (
 .cond (.t 11) (
  .seq (
  .reg [
    ⟨some 2, .mov (.k (.val (.bool false))), none⟩]) (
  .ret)) (
  .skip))) (
 .seq (
 .reg [
   ⟨some 12, .mov (.t 0), none⟩,
   ⟨some 13, .call 44 [.t 12, .k (.fn 123 [])], none⟩,
   ⟨some 14, .un .not (.t 13), none⟩,
   ⟨some 2, .mov (.t 14), none⟩]) (
 .ret)))
theorem ok70 : chkFn Tryz.prog 70 ir70 1 [.t 2] = true := by kernel_rfl

end Go.Proofs
end

/- Functions of the seat as data. MADE BY PROGRAM (print_ir.py). -/
section
set_option maxRecDepth 100000
namespace Go.Proofs
open Go.PW

def ir132_o35 : List POper :=
 [
  ⟨some 35, .faddr 2 (.t 1), some (34, true)⟩,
  ⟨some 36, .load false 1 (.t 35), some (34, true)⟩,
  ⟨some 37, .call 56 [.t 36, .k (.val (.int .i64 1)), .k (.val (.int .i64 9))], some (34, true)⟩,
  ⟨some 38, .pick (.t 34) (.t 37) (.k (.val (.bool false))), none⟩]
def ir132_o30 : List POper :=
 ⟨some 30, .faddr 1 (.t 1), some (29, true)⟩ ::
  ⟨some 31, .load false 1 (.t 30), some (29, true)⟩ ::
  ⟨some 32, .call 56 [.t 31, .k (.val (.int .i64 1)), .k (.val (.int .i64 9))], some (29, true)⟩ ::
  ⟨some 33, .pick (.t 29) (.t 32) (.k (.val (.bool false))), none⟩ ::
  ⟨some 34, .mov (.t 33), none⟩ ::
  ir132_o35
def ir132_o23 : List POper :=
 ⟨some 23, .load true 9 (.t 3), some (22, true)⟩ ::
  ⟨some 24, .call 163 [.t 23], some (22, true)⟩ ::
  ⟨some 25, .faddr 0 (.t 1), some (22, true)⟩ ::
  ⟨some 26, .load false 1 (.t 25), some (22, true)⟩ ::
  ⟨some 27, .bin .eql (.t 24) (.t 26), some (22, true)⟩ ::
  ⟨some 28, .pick (.t 22) (.t 27) (.k (.val (.bool false))), none⟩ ::
  ⟨some 29, .mov (.t 28), none⟩ ::
  ir132_o30
def ir132_o18 : List POper :=
 ⟨some 18, .faddr 8 (.t 3), some (17, true)⟩ ::
  ⟨some 19, .load false 1 (.t 18), some (17, true)⟩ ::
  ⟨some 20, .un .not (.t 19), some (17, true)⟩ ::
  ⟨some 21, .pick (.t 17) (.t 20) (.k (.val (.bool false))), none⟩ ::
  ⟨some 22, .mov (.t 21), none⟩ ::
  ir132_o23
/-- loop.example/g00779/spec.l03Target -/
def ir132 : PC :=
 .seq (
 .reg [
   ⟨some 1, .box (.t 0), none⟩,
   ⟨some 2, .mov (.k (.val (.bool false))), none⟩]) (
 .seq (
 .reg [
   ⟨some 6, .faddr 0 (.t 1), none⟩,
   ⟨some 7, .load false 1 (.t 6), none⟩,
   ⟨some 8, .call 161 [.t 7], none⟩,
   ⟨some 5, .mov (.t 8), none⟩,
   ⟨some 9, .ext 0 (.t 5), none⟩,
   ⟨some 10, .ext 1 (.t 5), none⟩,
   ⟨some 3, .alloc [.val (.str ⟨#[]⟩), .val (.str ⟨#[]⟩), .val (.str ⟨#[]⟩), .val (.int .i64 0), .val (.str ⟨#[]⟩), .val (.str ⟨#[]⟩), .val (.str ⟨#[]⟩), .val (.bool false), .val (.bool false)], none⟩,
   ⟨none, .store 9 (.t 3) (.t 9), none⟩,
   ⟨some 4, .mov (.t 10), none⟩]) (
 .seq (
 .draw (
   ⟨some 11, .mov (.t 4), none⟩ ::
   ⟨some 12, .mov (.t 11), none⟩ ::
   ⟨some 13, .faddr 0 (.t 3), some (12, true)⟩ ::
   ⟨some 14, .load false 1 (.t 13), some (12, true)⟩ ::
   ⟨some 15, .call 162 [.t 14], some (12, true)⟩ ::
   ⟨some 16, .pick (.t 12) (.t 15) (.k (.val (.bool false))), none⟩ ::
   ⟨some 17, .mov (.t 16), none⟩ ::
   ir132_o18) [
   ⟨some 2, .mov (.t 38), none⟩]) (
 .ret)))
theorem ok132 : chkFn Tryz.prog 132 ir132 1 [.t 2] = true := by kernel_rfl

def ir86_o36 : List POper :=
 [
  ⟨some 36, .faddr 3 (.t 4), some (35, false)⟩,
  ⟨some 37, .load false 1 (.t 36), some (35, false)⟩,
  ⟨some 38, .bin .eql (.t 37) (.k (.val (.int .i64 0))), some (35, false)⟩,
  ⟨some 39, .mov (.t 38), some (35, false)⟩,
  ⟨some 40, .faddr 4 (.t 4), some (39, true)⟩,
  ⟨some 41, .load false 1 (.t 40), some (39, true)⟩,
  ⟨some 42, .bin .neq (.t 41) (.k (.val (.int .i64 0))), some (39, true)⟩,
  ⟨some 43, .pick (.t 39) (.t 42) (.k (.val (.bool false))), some (35, false)⟩,
  ⟨some 44, .pick (.t 35) (.k (.val (.bool true))) (.t 43), none⟩]
def ir86_o30 : List POper :=
 ⟨some 30, .faddr 4 (.t 4), some (29, false)⟩ ::
  ⟨some 31, .load false 1 (.t 30), some (29, false)⟩ ::
  ⟨some 32, .call 56 [.t 31, .k (.val (.int .i64 0)), .k (.val (.int .i64 1000032))], some (29, false)⟩ ::
  ⟨some 33, .un .not (.t 32), some (29, false)⟩ ::
  ⟨some 34, .pick (.t 29) (.k (.val (.bool true))) (.t 33), none⟩ ::
  ⟨some 35, .mov (.t 34), none⟩ ::
  ir86_o36
def ir86_o24 : List POper :=
 ⟨some 24, .faddr 3 (.t 4), some (23, false)⟩ ::
  ⟨some 25, .load false 1 (.t 24), some (23, false)⟩ ::
  ⟨some 26, .call 56 [.t 25, .k (.val (.int .i64 0)), .k (.val (.int .i64 1000000))], some (23, false)⟩ ::
  ⟨some 27, .un .not (.t 26), some (23, false)⟩ ::
  ⟨some 28, .pick (.t 23) (.k (.val (.bool true))) (.t 27), none⟩ ::
  ⟨some 29, .mov (.t 28), none⟩ ::
  ir86_o30
def ir86_l45 : PC :=
 .seq (
 .seq (
 .reg [
   ⟨some 45, .mov (.t 5), none⟩,
   ⟨some 46, .mov (.t 3), none⟩,
   ⟨some 47, .bin .lss (.t 45) (.t 46), none⟩]) (
 .cond (.t 47) (
  .skip) (
  .exit 2))) (
 .seq (
 .block 3 (
  .seq (
  .draw [
    ⟨some 50, .mov (.t 0), none⟩,
    ⟨some 51, .mov (.t 5), none⟩,
    ⟨some 52, .iaddr 6 (.t 50) (.t 51), none⟩,
    ⟨some 53, .faddr 0 (.t 52), none⟩,
    ⟨some 54, .faddr 0 (.t 53), none⟩,
    ⟨some 55, .load false 1 (.t 54), none⟩,
    ⟨some 56, .faddr 0 (.t 4), none⟩,
    ⟨some 57, .faddr 0 (.t 56), none⟩,
    ⟨some 58, .load false 1 (.t 57), none⟩,
    ⟨some 59, .bin .eql (.t 55) (.t 58), none⟩] []) (
  .cond (.t 59) (
   .seq (
   .reg [
     ⟨some 2, .mov (.k (.val (.bool false))), none⟩]) (
   .ret)) (
   .skip)))) (
 .reg [
   ⟨some 48, .mov (.t 5), none⟩,
   ⟨some 49, .bin .add (.t 48) (.k (.val (.int .i64 1))), none⟩,
   ⟨some 5, .mov (.t 49), none⟩]))
def ir86_s45 : PC :=
 .block 2 (
  .loop (.ghost ir86_l45))
def ir86_s19 : PC :=
 .seq (
 .seq (
 .reg (
   ⟨some 19, .faddr 0 (.t 4), none⟩ ::
   ⟨some 20, .load true 3 (.t 19), none⟩ ::
   ⟨some 21, .call 132 [.t 20], none⟩ ::
   ⟨some 22, .un .not (.t 21), none⟩ ::
   ⟨some 23, .mov (.t 22), none⟩ ::
   ir86_o24)) (
 .cond (.t 44) (
  .seq (
  .reg [
    ⟨some 2, .mov (.k (.val (.bool false))), none⟩]) (
  .ret)) (
  .skip))) (
 .seq (
 .reg [
   ⟨some 5, .mov (.k (.val (.int .i64 0))), none⟩]) (
 ir86_s45))
def ir86_l9 : PC :=
 .seq (
 .seq (
 .reg [
   ⟨some 9, .mov (.t 3), none⟩,
   ⟨some 10, .mov (.t 0), none⟩,
   ⟨some 11, .len (.t 10), none⟩,
   ⟨some 12, .bin .lss (.t 9) (.t 11), none⟩]) (
 .cond (.t 12) (
  .skip) (
  .exit 0))) (
 .seq (
 .block 1 (
  .seq (
  .reg [
    ⟨some 15, .mov (.t 0), none⟩,
    ⟨some 16, .mov (.t 3), none⟩,
    ⟨some 17, .iaddr 6 (.t 15) (.t 16), none⟩,
    ⟨some 18, .load true 6 (.t 17), none⟩,
    ⟨some 4, .alloc [.val (.str ⟨#[]⟩), .val (.int .i64 0), .val (.int .i64 0), .val (.int .i64 0), .val (.int .i64 0), .val (.bool false)], none⟩,
    ⟨none, .store 6 (.t 4) (.t 18), none⟩]) (
  ir86_s19))) (
 .reg [
   ⟨some 13, .mov (.t 3), none⟩,
   ⟨some 14, .bin .add (.t 13) (.k (.val (.int .i64 1))), none⟩,
   ⟨some 3, .mov (.t 14), none⟩]))
/-- loop.example/g00779/spec.l07OK -/
def ir86 : PC :=
 .seq (
 .reg [
   ⟨some 2, .mov (.k (.val (.bool false))), none⟩]) (
 .seq (
 .seq (
 .reg [
   ⟨some 6, .mov (.t 0), none⟩,
   ⟨some 7, .len (.t 6), none⟩,
   ⟨some 8, .bin .gtr (.t 7) (.k (.val (.int .i64 4))), none⟩]) (
 .cond (.t 8) (
  .seq (
  .reg [
    ⟨some 2, .mov (.k (.val (.bool false))), none⟩]) (
  .ret)) (
  .skip))) (
 .seq (
 .seq (
 .reg [
   ⟨some 3, .mov (.k (.val (.int .i64 0))), none⟩]) (
 .block 0 (
  .loop (.ghost ir86_l9)))) (
 .seq (
 .reg [
   ⟨some 2, .mov (.k (.val (.bool true))), none⟩]) (
 .ret))))
theorem ok86 : chkFn Tryz.prog 86 ir86 1 [.t 2] = true := by kernel_rfl

end Go.Proofs
end

/- Functions of the seat as data. MADE BY PROGRAM (print_ir.py). -/
section
set_option maxRecDepth 100000
namespace Go.Proofs
open Go.PW

/-- loop.example/g00779/spec.l00Letter -/
def ir143 : PC :=
 .seq (
 .reg [
   ⟨some 2, .mov (.k (.val (.bool false))), none⟩]) (
 .seq (
 .reg [
   ⟨some 3, .mov (.t 0), none⟩,
   ⟨some 4, .bin .geq (.t 3) (.k (.val (.int .u8 97))), none⟩,
   ⟨some 5, .mov (.t 4), none⟩,
   ⟨some 6, .mov (.t 0), some (5, true)⟩,
   ⟨some 7, .bin .leq (.t 6) (.k (.val (.int .u8 122))), some (5, true)⟩,
   ⟨some 8, .pick (.t 5) (.t 7) (.k (.val (.bool false))), none⟩,
   ⟨some 9, .mov (.t 8), none⟩,
   ⟨some 10, .mov (.t 0), some (9, false)⟩,
   ⟨some 11, .bin .geq (.t 10) (.k (.val (.int .u8 65))), some (9, false)⟩,
   ⟨some 12, .mov (.t 11), some (9, false)⟩,
   ⟨some 13, .mov (.t 0), some (12, true)⟩,
   ⟨some 14, .bin .leq (.t 13) (.k (.val (.int .u8 90))), some (12, true)⟩,
   ⟨some 15, .pick (.t 12) (.t 14) (.k (.val (.bool false))), some (9, false)⟩,
   ⟨some 16, .pick (.t 9) (.k (.val (.bool true))) (.t 15), none⟩,
   ⟨some 17, .mov (.t 16), none⟩,
   ⟨some 18, .mov (.t 0), some (17, false)⟩,
   ⟨some 19, .bin .eql (.t 18) (.k (.val (.int .u8 95))), some (17, false)⟩,
   ⟨some 20, .pick (.t 17) (.k (.val (.bool true))) (.t 19), none⟩,
   ⟨some 2, .mov (.t 20), none⟩]) (
 .ret))
theorem ok143 : chkFn Tryz.prog 143 ir143 1 [.t 2] = true := by kernel_rfl

/-- loop.example/g00779/spec.l00Word -/
def ir105 : PC :=
 .seq (
 .reg [
   ⟨some 2, .mov (.k (.val (.bool false))), none⟩]) (
 .seq (
 .seq (
 .reg [
   ⟨some 4, .mov (.t 0), none⟩,
   ⟨some 5, .lens (.t 4), none⟩,
   ⟨some 6, .bin .lss (.t 5) (.k (.val (.int .i64 1))), none⟩,
   ⟨some 7, .mov (.t 6), none⟩,
   ⟨some 8, .mov (.t 0), some (7, false)⟩,
   ⟨some 9, .lens (.t 8), some (7, false)⟩,
   ⟨some 10, .bin .gtr (.t 9) (.k (.val (.int .i64 12))), some (7, false)⟩,
   ⟨some 11, .pick (.t 7) (.k (.val (.bool true))) (.t 10), none⟩,
   ⟨some 12, .mov (.t 11), none⟩,
   ⟨some 13, .mov (.t 0), some (12, false)⟩,
   ⟨some 14, .idx (.t 13) (.k (.val (.int .i64 0))), some (12, false)⟩,
   ⟨some 15, .call 143 [.t 14], some (12, false)⟩,
   ⟨some 16, .un .not (.t 15), some (12, false)⟩,
   ⟨some 17, .pick (.t 12) (.k (.val (.bool true))) (.t 16), none⟩]) (
 .cond (.t 17) (
  .seq (
  .reg [
    ⟨some 2, .mov (.k (.val (.bool false))), none⟩]) (
  .ret)) (
  .skip))) (
 .seq (
 .seq (
 .reg [
   ⟨some 3, .mov (.k (.val (.int .i64 1))), none⟩]) (
 .block 0 (
  .loop (.ghost (
   .seq (
   .seq (
   .reg [
     ⟨some 18, .mov (.t 3), none⟩,
     ⟨some 19, .mov (.t 0), none⟩,
     ⟨some 20, .lens (.t 19), none⟩,
     ⟨some 21, .bin .lss (.t 18) (.t 20), none⟩]) (
   .cond (.t 21) (
    .skip) (
    .exit 0))) (
   .seq (
   .block 1 (
    .seq (
    .reg [
      ⟨some 24, .mov (.t 0), none⟩,
      ⟨some 25, .mov (.t 3), none⟩,
      ⟨some 26, .idx (.t 24) (.t 25), none⟩,
      ⟨some 27, .call 143 [.t 26], none⟩,
      ⟨some 28, .un .not (.t 27), none⟩,
      ⟨some 29, .mov (.t 28), none⟩,
      ⟨some 30, .mov (.t 0), some (29, true)⟩,
      ⟨some 31, .mov (.t 3), some (29, true)⟩,
      ⟨some 32, .idx (.t 30) (.t 31), some (29, true)⟩,
      ⟨some 33, .call 144 [.t 32], some (29, true)⟩,
      ⟨some 34, .un .not (.t 33), some (29, true)⟩,
      ⟨some 35, .pick (.t 29) (.t 34) (.k (.val (.bool false))), none⟩]) (
    .cond (.t 35) (
     .seq (
     .reg [
       ⟨some 2, .mov (.k (.val (.bool false))), none⟩]) (
     .ret)) (
     .skip)))) (
   .reg [
     ⟨some 22, .mov (.t 3), none⟩,
     ⟨some 23, .bin .add (.t 22) (.k (.val (.int .i64 1))), none⟩,
     ⟨some 3, .mov (.t 23), none⟩]))))))) (
 .seq (
 .reg [
   ⟨some 2, .mov (.k (.val (.bool true))), none⟩]) (
 .ret))))
theorem ok105 : chkFn Tryz.prog 105 ir105 1 [.t 2] = true := by kernel_rfl

end Go.Proofs
end

/- Functions of the seat as data. MADE BY PROGRAM (print_ir.py). -/
section
set_option maxRecDepth 100000
namespace Go.Proofs
open Go.PW

def ir80_s36 : PC :=
 .seq (
 .reg [
   ⟨some 36, .mov (.t 5), none⟩,
   ⟨some 37, .un .not (.t 36), none⟩,
   ⟨some 38, .mov (.t 37), none⟩,
   ⟨some 39, .mov (.t 3), some (38, true)⟩,
   ⟨some 40, .bin .eql (.t 39) (.k (.val (.int .i64 0))), some (38, true)⟩,
   ⟨some 41, .mov (.t 40), some (38, true)⟩,
   ⟨some 42, .mov (.t 4), some (41, false)⟩,
   ⟨some 43, .bin .lss (.t 42) (.k (.val (.int .u8 48))), some (41, false)⟩,
   ⟨some 44, .pick (.t 41) (.k (.val (.bool true))) (.t 43), some (38, true)⟩,
   ⟨some 45, .mov (.t 44), some (38, true)⟩,
   ⟨some 46, .mov (.t 4), some (45, false)⟩,
   ⟨some 47, .bin .gtr (.t 46) (.k (.val (.int .u8 57))), some (45, false)⟩,
   ⟨some 48, .pick (.t 45) (.k (.val (.bool true))) (.t 47), some (38, true)⟩,
   ⟨some 49, .pick (.t 38) (.t 48) (.k (.val (.bool false))), none⟩]) (
 .cond (.t 49) (
  .seq (
  .reg [
    ⟨some 2, .mov (.k (.val (.bool false))), none⟩]) (
  .ret)) (
  .skip))
/-- loop.example/g00779/impl.NameOK -/
def ir80 : PC :=
 .seq (
 .reg [
   ⟨some 2, .mov (.k (.val (.bool false))), none⟩]) (
 .seq (
 .seq (
 .reg [
   ⟨some 6, .mov (.t 0), none⟩,
   ⟨some 7, .lens (.t 6), none⟩,
   ⟨some 8, .call 29 [.t 7, .k (.val (.int .i64 1)), .k (.val (.int .i64 12))], none⟩,
   ⟨some 9, .un .not (.t 8), none⟩]) (
 .cond (.t 9) (
  .seq (
  .reg [
    ⟨some 2, .mov (.k (.val (.bool false))), none⟩]) (
  .ret)) (
  .skip))) (
 .seq (
 .seq (
 .reg [
   ⟨some 10, .mov (.t 0), none⟩,
   ⟨some 11, .lens (.t 10), none⟩,
   ⟨some 12, .mov (.k (.val (.int .i64 0))), none⟩]) (
 .block 0 (
  .loop (.ghost (
   .seq (
   .reg [
     ⟨some 13, .bin .lss (.t 12) (.t 11), none⟩]) (
   .seq (
   .cond (.t 13) (
    .skip) (
    .exit 0)) (
   .seq (
   .block 1 (
    .seq (
    .reg [
      ⟨some 14, .mov (.t 12), none⟩,
      ⟨some 3, .mov (.t 14), none⟩]) (
    .seq (
    .reg [
      ⟨some 15, .mov (.t 0), none⟩,
      ⟨some 16, .mov (.t 3), none⟩,
      ⟨some 17, .idx (.t 15) (.t 16), none⟩,
      ⟨some 4, .mov (.t 17), none⟩]) (
    .seq (
    .reg [
      ⟨some 18, .mov (.t 4), none⟩,
      ⟨some 19, .bin .leq (.k (.val (.int .u8 97))) (.t 18), none⟩,
      ⟨some 20, .mov (.t 19), none⟩,
      ⟨some 21, .mov (.t 4), some (20, true)⟩,
      ⟨some 22, .bin .leq (.t 21) (.k (.val (.int .u8 122))), some (20, true)⟩,
      ⟨some 23, .pick (.t 20) (.t 22) (.k (.val (.bool false))), none⟩,
      ⟨some 24, .mov (.t 23), none⟩,
      ⟨some 25, .mov (.t 4), some (24, false)⟩,
      ⟨some 26, .bin .leq (.k (.val (.int .u8 65))) (.t 25), some (24, false)⟩,
      ⟨some 27, .mov (.t 26), some (24, false)⟩,
      ⟨some 28, .mov (.t 4), some (27, true)⟩,
      ⟨some 29, .bin .leq (.t 28) (.k (.val (.int .u8 90))), some (27, true)⟩,
      ⟨some 30, .pick (.t 27) (.t 29) (.k (.val (.bool false))), some (24, false)⟩,
      ⟨some 31, .pick (.t 24) (.k (.val (.bool true))) (.t 30), none⟩,
      ⟨some 32, .mov (.t 31), none⟩,
      ⟨some 33, .mov (.t 4), some (32, false)⟩,
      ⟨some 34, .bin .eql (.t 33) (.k (.val (.int .u8 95))), some (32, false)⟩,
      ⟨some 35, .pick (.t 32) (.k (.val (.bool true))) (.t 34), none⟩,
      ⟨some 5, .mov (.t 35), none⟩]) (
    ir80_s36))))) (
   .reg [
     ⟨some 50, .bin .add (.t 12) (.k (.val (.int .i64 1))), none⟩,
     ⟨some 12, .mov (.t 50), none⟩])))))))) (
 .seq (
 .reg [
   ⟨some 2, .mov (.k (.val (.bool true))), none⟩]) (
 .ret))))
theorem ok80 : chkFn Tryz.prog 80 ir80 1 [.t 2] = true := by kernel_rfl

end Go.Proofs
end

/- Functions of the seat as data. MADE BY PROGRAM (print_ir.py). -/
section
set_option maxRecDepth 100000
namespace Go.Proofs
open Go.PW

/-- loop.example/g00779/spec.l03At -/
def ir141 : PC :=
 .seq (
 .reg [
   ⟨some 4, .mov (.k (.val (.int .i64 0))), none⟩]) (
 .seq (
 .seq (
 .reg [
   ⟨some 5, .mov (.k (.val (.int .i64 0))), none⟩]) (
 .block 0 (
  .loop (.ghost (
   .seq (
   .seq (
   .reg [
     ⟨some 6, .mov (.t 5), none⟩,
     ⟨some 7, .mov (.t 0), none⟩,
     ⟨some 8, .len (.t 7), none⟩,
     ⟨some 9, .bin .lss (.t 6) (.t 8), none⟩]) (
   .cond (.t 9) (
    .skip) (
    .exit 0))) (
   .seq (
   .block 1 (
    .seq (
    .reg [
      ⟨some 12, .mov (.t 0), none⟩,
      ⟨some 13, .mov (.t 5), none⟩,
      ⟨some 14, .iaddr 3 (.t 12) (.t 13), none⟩,
      ⟨some 15, .faddr 0 (.t 14), none⟩,
      ⟨some 16, .load false 1 (.t 15), none⟩,
      ⟨some 17, .mov (.t 1), none⟩,
      ⟨some 18, .bin .eql (.t 16) (.t 17), none⟩]) (
    .cond (.t 18) (
     .seq (
     .reg [
       ⟨some 19, .mov (.t 5), none⟩,
       ⟨some 4, .mov (.t 19), none⟩]) (
     .ret)) (
     .skip)))) (
   .reg [
     ⟨some 10, .mov (.t 5), none⟩,
     ⟨some 11, .bin .add (.t 10) (.k (.val (.int .i64 1))), none⟩,
     ⟨some 5, .mov (.t 11), none⟩]))))))) (
 .seq (
 .reg [
   ⟨some 4, .mov (.k (.val (.int .i64 (-1)))), none⟩]) (
 .ret)))
theorem ok141 : chkFn Tryz.prog 141 ir141 2 [.t 4] = true := by kernel_rfl

/-- loop.example/g00779/spec.l03OK -/
def ir103 : PC :=
 .seq (
 .reg [
   ⟨some 1, .box (.t 0), none⟩,
   ⟨some 2, .mov (.k (.val (.bool false))), none⟩]) (
 .seq (
 .seq (
 .reg [
   ⟨some 4, .faddr 0 (.t 1), none⟩,
   ⟨some 5, .load false 1 (.t 4), none⟩,
   ⟨some 6, .call 105 [.t 5], none⟩,
   ⟨some 7, .un .not (.t 6), none⟩,
   ⟨some 8, .mov (.t 7), none⟩,
   ⟨some 9, .faddr 1 (.t 1), some (8, false)⟩,
   ⟨some 10, .load false 1 (.t 9), some (8, false)⟩,
   ⟨some 11, .call 56 [.t 10, .k (.val (.int .i64 1)), .k (.val (.int .i64 100))], some (8, false)⟩,
   ⟨some 12, .un .not (.t 11), some (8, false)⟩,
   ⟨some 13, .pick (.t 8) (.k (.val (.bool true))) (.t 12), none⟩,
   ⟨some 14, .mov (.t 13), none⟩,
   ⟨some 15, .faddr 2 (.t 1), some (14, false)⟩,
   ⟨some 16, .load false 1 (.t 15), some (14, false)⟩,
   ⟨some 17, .len (.t 16), some (14, false)⟩,
   ⟨some 18, .call 56 [.t 17, .k (.val (.int .i64 1)), .k (.val (.int .i64 4))], some (14, false)⟩,
   ⟨some 19, .un .not (.t 18), some (14, false)⟩,
   ⟨some 20, .pick (.t 14) (.k (.val (.bool true))) (.t 19), none⟩]) (
 .cond (.t 20) (
  .seq (
  .reg [
    ⟨some 2, .mov (.k (.val (.bool false))), none⟩]) (
  .ret)) (
  .skip))) (
 .seq (
 .seq (
 .reg [
   ⟨some 3, .mov (.k (.val (.int .i64 0))), none⟩]) (
 .block 0 (
  .loop (.ghost (
   .seq (
   .seq (
   .reg [
     ⟨some 21, .mov (.t 3), none⟩,
     ⟨some 22, .faddr 2 (.t 1), none⟩,
     ⟨some 23, .load false 1 (.t 22), none⟩,
     ⟨some 24, .len (.t 23), none⟩,
     ⟨some 25, .bin .lss (.t 21) (.t 24), none⟩]) (
   .cond (.t 25) (
    .skip) (
    .exit 0))) (
   .seq (
   .block 1 (
    .seq (
    .draw [
      ⟨some 28, .faddr 2 (.t 1), none⟩,
      ⟨some 29, .load false 1 (.t 28), none⟩,
      ⟨some 30, .mov (.t 3), none⟩,
      ⟨some 31, .iaddr 3 (.t 29) (.t 30), none⟩,
      ⟨some 32, .load true 3 (.t 31), none⟩,
      ⟨some 33, .call 132 [.t 32], none⟩,
      ⟨some 34, .un .not (.t 33), none⟩,
      ⟨some 35, .mov (.t 34), none⟩,
      ⟨some 36, .faddr 2 (.t 1), some (35, false)⟩,
      ⟨some 37, .load false 1 (.t 36), some (35, false)⟩,
      ⟨some 38, .faddr 2 (.t 1), some (35, false)⟩,
      ⟨some 39, .load false 1 (.t 38), some (35, false)⟩,
      ⟨some 40, .mov (.t 3), some (35, false)⟩,
      ⟨some 41, .iaddr 3 (.t 39) (.t 40), some (35, false)⟩,
      ⟨some 42, .faddr 0 (.t 41), some (35, false)⟩,
      ⟨some 43, .load false 1 (.t 42), some (35, false)⟩,
      ⟨some 44, .call 141 [.t 37, .t 43], some (35, false)⟩,
      ⟨some 45, .mov (.t 3), some (35, false)⟩,
      ⟨some 46, .bin .neq (.t 44) (.t 45), some (35, false)⟩,
      ⟨some 47, .pick (.t 35) (.k (.val (.bool true))) (.t 46), none⟩] []) (
    .cond (.t 47) (
     .seq (
     .reg [
       ⟨some 2, .mov (.k (.val (.bool false))), none⟩]) (
     .ret)) (
     .skip)))) (
   .reg [
     ⟨some 26, .mov (.t 3), none⟩,
     ⟨some 27, .bin .add (.t 26) (.k (.val (.int .i64 1))), none⟩,
     ⟨some 3, .mov (.t 27), none⟩]))))))) (
 .seq (
 .reg [
   ⟨some 2, .mov (.k (.val (.bool true))), none⟩]) (
 .ret))))
theorem ok103 : chkFn Tryz.prog 103 ir103 1 [.t 2] = true := by kernel_rfl

/-- loop.example/g00779/impl.GroupOK$1 -/
def ir121 : PC :=
 .seq (
 .reg [
   ⟨some 1, .box (.t 0), none⟩,
   ⟨some 2, .mov (.k (.val (.bool false))), none⟩]) (
 .seq (
 .reg [
   ⟨some 3, .load true 3 (.t 1), none⟩,
   ⟨some 4, .call 122 [.t 3], none⟩,
   ⟨some 5, .un .not (.t 4), none⟩,
   ⟨some 2, .mov (.t 5), none⟩]) (
 .ret))
theorem ok121 : chkFn Tryz.prog 121 ir121 1 [.t 2] = true := by kernel_rfl

/-- loop.example/g00779/impl.GroupOK -/
def ir69 : PC :=
 .seq (
 .reg [
   ⟨some 1, .box (.t 0), none⟩,
   ⟨some 2, .mov (.k (.val (.bool false))), none⟩]) (
 .seq (
 .reg [
   ⟨some 3, .faddr 0 (.t 1), none⟩,
   ⟨some 4, .load false 1 (.t 3), none⟩,
   ⟨some 5, .call 80 [.t 4], none⟩,
   ⟨some 6, .mov (.t 5), none⟩,
   ⟨some 7, .faddr 1 (.t 1), some (6, true)⟩,
   ⟨some 8, .load false 1 (.t 7), some (6, true)⟩,
   ⟨some 9, .call 29 [.t 8, .k (.val (.int .i64 1)), .k (.val (.int .i64 100))], some (6, true)⟩,
   ⟨some 10, .pick (.t 6) (.t 9) (.k (.val (.bool false))), none⟩,
   ⟨some 11, .mov (.t 10), none⟩,
   ⟨some 12, .faddr 2 (.t 1), some (11, true)⟩,
   ⟨some 13, .load false 1 (.t 12), some (11, true)⟩,
   ⟨some 14, .len (.t 13), some (11, true)⟩,
   ⟨some 15, .call 29 [.t 14, .k (.val (.int .i64 1)), .k (.val (.int .i64 4))], some (11, true)⟩,
   ⟨some 16, .pick (.t 11) (.t 15) (.k (.val (.bool false))), none⟩,
   ⟨some 17, .mov (.t 16), none⟩,
   ⟨some 18, .faddr 2 (.t 1), some (17, true)⟩,
   ⟨some 19, .load false 1 (.t 18), some (17, true)⟩,
   ⟨some 20, .call 119 [.t 19], some (17, true)⟩,
   ⟨some 21, .pick (.t 17) (.t 20) (.k (.val (.bool false))), none⟩,
   ⟨some 22, .mov (.t 21), none⟩,
   ⟨some 23, .faddr 2 (.t 1), some (22, true)⟩,
   ⟨some 24, .load false 1 (.t 23), some (22, true)⟩,
   ⟨some 25, .call 120 [.t 24, .k (.fn 121 [])], some (22, true)⟩,
   ⟨some 26, .un .not (.t 25), some (22, true)⟩,
   ⟨some 27, .pick (.t 22) (.t 26) (.k (.val (.bool false))), none⟩,
   ⟨some 2, .mov (.t 27), none⟩]) (
 .ret))
theorem ok69 : chkFn Tryz.prog 69 ir69 1 [.t 2] = true := by kernel_rfl

end Go.Proofs
end
