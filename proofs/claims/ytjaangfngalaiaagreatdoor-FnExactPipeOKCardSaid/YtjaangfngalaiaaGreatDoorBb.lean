/- Bb: merged out of IRv, IRe, IRf, IRg, IRj. -/
import Derived.Test.YtjaangfngalaiaaGreatDoorPWv
import Derived.Test.YtjaangfngalaiaaGreatDoorChecked
import Derived.KernelRfl

/- Functions of the seat as data. MADE BY PROGRAM (print_ir.py). -/
section
set_option maxRecDepth 100000
namespace Go.Proofs
open Go.PW

/-- loop.example/g00779/laws.szPeerS -/
def ir94 : PC :=
 .seq (
 .reg [
   ⟨some 4, .mov (.k (.val (.int .i64 0))), none⟩]) (
 .seq (
 .reg [
   ⟨some 6, .mov (.t 1), none⟩,
   ⟨some 7, .mov (.t 0), none⟩,
   ⟨some 8, .len (.t 7), none⟩,
   ⟨some 9, .bin .sub (.t 6) (.t 8), none⟩,
   ⟨some 1, .mov (.t 9), none⟩]) (
 .seq (
 .seq (
 .reg [
   ⟨some 10, .mov (.t 1), none⟩,
   ⟨some 11, .bin .lss (.t 10) (.k (.val (.int .i64 0))), none⟩]) (
 .cond (.t 11) (
  .seq (
  .reg [
    ⟨some 4, .mov (.k (.val (.int .i64 (-1)))), none⟩]) (
  .ret)) (
  .skip))) (
 .seq (
 .seq (
 .reg [
   ⟨some 5, .mov (.k (.val (.int .i64 0))), none⟩]) (
 .block 0 (
  .loop (.ghost (
   .seq (
   .seq (
   .reg [
     ⟨some 12, .mov (.t 5), none⟩,
     ⟨some 13, .mov (.t 0), none⟩,
     ⟨some 14, .len (.t 13), none⟩,
     ⟨some 15, .bin .lss (.t 12) (.t 14), none⟩]) (
   .cond (.t 15) (
    .skip) (
    .exit 0))) (
   .seq (
   .block 1 (
    .seq (
    .reg [
      ⟨some 18, .mov (.t 0), none⟩,
      ⟨some 19, .mov (.t 5), none⟩,
      ⟨some 20, .iaddr 6 (.t 18) (.t 19), none⟩,
      ⟨some 21, .load true 6 (.t 20), none⟩,
      ⟨some 22, .mov (.t 1), none⟩,
      ⟨some 23, .call 136 [.t 21, .t 22], none⟩,
      ⟨some 1, .mov (.t 23), none⟩]) (
    .seq (
    .reg [
      ⟨some 24, .mov (.t 1), none⟩,
      ⟨some 25, .bin .lss (.t 24) (.k (.val (.int .i64 0))), none⟩]) (
    .cond (.t 25) (
     .seq (
     .reg [
       ⟨some 4, .mov (.k (.val (.int .i64 (-1)))), none⟩]) (
     .ret)) (
     .skip))))) (
   .reg [
     ⟨some 16, .mov (.t 5), none⟩,
     ⟨some 17, .bin .add (.t 16) (.k (.val (.int .i64 1))), none⟩,
     ⟨some 5, .mov (.t 17), none⟩]))))))) (
 .seq (
 .reg [
   ⟨some 26, .mov (.t 1), none⟩,
   ⟨some 4, .mov (.t 26), none⟩]) (
 .ret)))))
theorem ok94 : chkFn Tryz.prog 94 ir94 2 [.t 4] = true := by kernel_rfl

/-- loop.example/g00779/laws.szPeer -/
def ir136 : PC :=
 .seq (
 .reg [
   ⟨some 2, .box (.t 0), none⟩,
   ⟨some 4, .mov (.k (.val (.int .i64 0))), none⟩]) (
 .seq (
 .reg [
   ⟨some 5, .faddr 0 (.t 2), none⟩,
   ⟨some 6, .load true 3 (.t 5), none⟩,
   ⟨some 7, .mov (.t 1), none⟩,
   ⟨some 8, .call 164 [.t 6, .t 7], none⟩,
   ⟨some 1, .mov (.t 8), none⟩]) (
 .seq (
 .seq (
 .reg [
   ⟨some 9, .mov (.t 1), none⟩,
   ⟨some 10, .bin .lss (.t 9) (.k (.val (.int .i64 0))), none⟩]) (
 .cond (.t 10) (
  .seq (
  .reg [
    ⟨some 4, .mov (.k (.val (.int .i64 (-1)))), none⟩]) (
  .ret)) (
  .skip))) (
 .seq (
 .reg [
   ⟨some 11, .mov (.t 1), none⟩,
   ⟨some 4, .mov (.t 11), none⟩]) (
 .ret))))
theorem ok136 : chkFn Tryz.prog 136 ir136 2 [.t 4] = true := by kernel_rfl

/-- loop.example/g00779/laws.szTarget -/
def ir164 : PC :=
 .seq (
 .reg [
   ⟨some 2, .box (.t 0), none⟩,
   ⟨some 4, .mov (.k (.val (.int .i64 0))), none⟩]) (
 .seq (
 .reg [
   ⟨some 5, .mov (.t 1), none⟩,
   ⟨some 6, .faddr 0 (.t 2), none⟩,
   ⟨some 7, .load false 1 (.t 6), none⟩,
   ⟨some 8, .lens (.t 7), none⟩,
   ⟨some 9, .bin .sub (.t 5) (.t 8), none⟩,
   ⟨some 1, .mov (.t 9), none⟩]) (
 .seq (
 .seq (
 .reg [
   ⟨some 10, .mov (.t 1), none⟩,
   ⟨some 11, .bin .lss (.t 10) (.k (.val (.int .i64 0))), none⟩]) (
 .cond (.t 11) (
  .seq (
  .reg [
    ⟨some 4, .mov (.k (.val (.int .i64 (-1)))), none⟩]) (
  .ret)) (
  .skip))) (
 .seq (
 .reg [
   ⟨some 12, .mov (.t 1), none⟩,
   ⟨some 4, .mov (.t 12), none⟩]) (
 .ret))))
theorem ok164 : chkFn Tryz.prog 164 ir164 2 [.t 4] = true := by kernel_rfl

/-- loop.example/g00779/laws.toPeerS -/
def ir107 : PC :=
 .seq (
 .reg [
   ⟨some 2, .mov (.k (.emp 6)), none⟩]) (
 .seq (
 .reg [
   ⟨some 5, .mov (.t 0), none⟩,
   ⟨some 6, .len (.t 5), none⟩,
   ⟨some 7, .mks 90 6 56 true [.val (.str ⟨#[]⟩), .val (.int .i64 0), .val (.int .i64 0), .val (.int .i64 0), .val (.int .i64 0), .val (.bool false)] (.t 6), none⟩,
   ⟨some 3, .mov (.t 7), none⟩]) (
 .seq (
 .seq (
 .reg [
   ⟨some 4, .mov (.k (.val (.int .i64 0))), none⟩]) (
 .block 0 (
  .loop (.ghost (
   .seq (
   .seq (
   .reg [
     ⟨some 8, .mov (.t 4), none⟩,
     ⟨some 9, .mov (.t 0), none⟩,
     ⟨some 10, .len (.t 9), none⟩,
     ⟨some 11, .bin .lss (.t 8) (.t 10), none⟩]) (
   .cond (.t 11) (
    .skip) (
    .exit 0))) (
   .seq (
   .block 1 (
    .reg [
      ⟨some 14, .mov (.t 3), none⟩,
      ⟨some 15, .mov (.t 4), none⟩,
      ⟨some 16, .mov (.t 0), none⟩,
      ⟨some 17, .mov (.t 4), none⟩,
      ⟨some 18, .iaddr 6 (.t 16) (.t 17), none⟩,
      ⟨some 19, .load true 6 (.t 18), none⟩,
      ⟨some 20, .call 146 [.t 19], none⟩,
      ⟨some 21, .iaddr 6 (.t 14) (.t 15), none⟩,
      ⟨none, .store 6 (.t 21) (.t 20), none⟩])) (
   .reg [
     ⟨some 12, .mov (.t 4), none⟩,
     ⟨some 13, .bin .add (.t 12) (.k (.val (.int .i64 1))), none⟩,
     ⟨some 4, .mov (.t 13), none⟩]))))))) (
 .seq (
 .reg [
   ⟨some 22, .mov (.t 3), none⟩,
   ⟨some 2, .mov (.t 22), none⟩]) (
 .ret))))
theorem ok107 : chkFn Tryz.prog 107 ir107 1 [.t 2] = true := by kernel_rfl

/-- loop.example/g00779/laws.toPeer -/
def ir146 : PC :=
 .seq (
 .reg [
   ⟨some 1, .box (.t 0), none⟩,
   ⟨some 2, .alloc [.val (.str ⟨#[]⟩), .val (.int .i64 0), .val (.int .i64 0), .val (.int .i64 0), .val (.int .i64 0), .val (.bool false)], none⟩]) (
 .seq (
 .reg [
   ⟨some 3, .alloc [.val (.str ⟨#[]⟩), .val (.int .i64 0), .val (.int .i64 0), .val (.int .i64 0), .val (.int .i64 0), .val (.bool false)], none⟩]) (
 .seq (
 .reg [
   ⟨some 4, .faddr 0 (.t 1), none⟩,
   ⟨some 5, .load true 3 (.t 4), none⟩,
   ⟨some 6, .call 166 [.t 5], none⟩,
   ⟨some 7, .faddr 0 (.t 3), none⟩,
   ⟨none, .store 3 (.t 7) (.t 6), none⟩]) (
 .seq (
 .reg [
   ⟨some 8, .faddr 3 (.t 1), none⟩,
   ⟨some 9, .load false 1 (.t 8), none⟩,
   ⟨some 10, .faddr 3 (.t 3), none⟩,
   ⟨none, .store 1 (.t 10) (.t 9), none⟩]) (
 .seq (
 .reg [
   ⟨some 11, .faddr 4 (.t 1), none⟩,
   ⟨some 12, .load false 1 (.t 11), none⟩,
   ⟨some 13, .faddr 4 (.t 3), none⟩,
   ⟨none, .store 1 (.t 13) (.t 12), none⟩]) (
 .seq (
 .reg [
   ⟨some 14, .faddr 5 (.t 1), none⟩,
   ⟨some 15, .load false 1 (.t 14), none⟩,
   ⟨some 16, .faddr 5 (.t 3), none⟩,
   ⟨none, .store 1 (.t 16) (.t 15), none⟩]) (
 .seq (
 .reg [
   ⟨some 17, .load true 6 (.t 3), none⟩,
   ⟨none, .store 6 (.t 2) (.t 17), none⟩]) (
 .ret)))))))
theorem ok146 : chkFn Tryz.prog 146 ir146 1 [.c 2 true 6] = true := by kernel_rfl

/-- loop.example/g00779/laws.toTarget -/
def ir166 : PC :=
 .seq (
 .reg [
   ⟨some 1, .box (.t 0), none⟩,
   ⟨some 2, .alloc [.val (.str ⟨#[]⟩), .val (.int .i64 0), .val (.int .i64 0)], none⟩]) (
 .seq (
 .reg [
   ⟨some 3, .alloc [.val (.str ⟨#[]⟩), .val (.int .i64 0), .val (.int .i64 0)], none⟩]) (
 .seq (
 .reg [
   ⟨some 4, .faddr 0 (.t 1), none⟩,
   ⟨some 5, .load false 1 (.t 4), none⟩,
   ⟨some 6, .faddr 0 (.t 3), none⟩,
   ⟨none, .store 1 (.t 6) (.t 5), none⟩]) (
 .seq (
 .reg [
   ⟨some 7, .faddr 1 (.t 1), none⟩,
   ⟨some 8, .load false 1 (.t 7), none⟩,
   ⟨some 9, .faddr 1 (.t 3), none⟩,
   ⟨none, .store 1 (.t 9) (.t 8), none⟩]) (
 .seq (
 .reg [
   ⟨some 10, .faddr 2 (.t 1), none⟩,
   ⟨some 11, .load false 1 (.t 10), none⟩,
   ⟨some 12, .faddr 2 (.t 3), none⟩,
   ⟨none, .store 1 (.t 12) (.t 11), none⟩]) (
 .seq (
 .reg [
   ⟨some 13, .load true 3 (.t 3), none⟩,
   ⟨none, .store 3 (.t 2) (.t 13), none⟩]) (
 .ret))))))
theorem ok166 : chkFn Tryz.prog 166 ir166 1 [.c 2 true 3] = true := by kernel_rfl

/-- loop.example/g00779/laws.eqPeerS -/
def ir128 : PC :=
 .seq (
 .reg [
   ⟨some 4, .mov (.k (.val (.bool false))), none⟩]) (
 .seq (
 .seq (
 .reg [
   ⟨some 6, .mov (.t 0), none⟩,
   ⟨some 7, .len (.t 6), none⟩,
   ⟨some 8, .mov (.t 1), none⟩,
   ⟨some 9, .len (.t 8), none⟩,
   ⟨some 10, .bin .neq (.t 7) (.t 9), none⟩]) (
 .cond (.t 10) (
  .seq (
  .reg [
    ⟨some 4, .mov (.k (.val (.bool false))), none⟩]) (
  .ret)) (
  .skip))) (
 .seq (
 .seq (
 .reg [
   ⟨some 5, .mov (.k (.val (.int .i64 0))), none⟩]) (
 .block 0 (
  .loop (.ghost (
   .seq (
   .seq (
   .reg [
     ⟨some 11, .mov (.t 5), none⟩,
     ⟨some 12, .mov (.t 0), none⟩,
     ⟨some 13, .len (.t 12), none⟩,
     ⟨some 14, .bin .lss (.t 11) (.t 13), none⟩]) (
   .cond (.t 14) (
    .skip) (
    .exit 0))) (
   .seq (
   .block 1 (
    .seq (
    .draw [
      ⟨some 17, .mov (.t 0), none⟩,
      ⟨some 18, .mov (.t 5), none⟩,
      ⟨some 19, .iaddr 6 (.t 17) (.t 18), none⟩,
      ⟨some 20, .load true 6 (.t 19), none⟩,
      ⟨some 21, .mov (.t 1), none⟩,
      ⟨some 22, .mov (.t 5), none⟩,
      ⟨some 23, .iaddr 6 (.t 21) (.t 22), none⟩,
      ⟨some 24, .load true 6 (.t 23), none⟩] [
      ⟨some 25, .call 159 [.t 20, .t 24], none⟩,
      ⟨some 26, .un .not (.t 25), none⟩]) (
    .cond (.t 26) (
     .seq (
     .reg [
       ⟨some 4, .mov (.k (.val (.bool false))), none⟩]) (
     .ret)) (
     .skip)))) (
   .reg [
     ⟨some 15, .mov (.t 5), none⟩,
     ⟨some 16, .bin .add (.t 15) (.k (.val (.int .i64 1))), none⟩,
     ⟨some 5, .mov (.t 16), none⟩]))))))) (
 .seq (
 .reg [
   ⟨some 4, .mov (.k (.val (.bool true))), none⟩]) (
 .ret))))
theorem ok128 : chkFn Tryz.prog 128 ir128 2 [.t 4] = true := by kernel_rfl

/-- loop.example/g00779/laws.eqPeer -/
def ir159 : PC :=
 .seq (
 .reg [
   ⟨some 2, .box (.t 0), none⟩,
   ⟨some 3, .box (.t 1), none⟩,
   ⟨some 4, .mov (.k (.val (.bool false))), none⟩]) (
 .seq (
 .seq (
 .reg [
   ⟨some 5, .faddr 0 (.t 2), none⟩,
   ⟨some 6, .load true 3 (.t 5), none⟩,
   ⟨some 7, .faddr 0 (.t 3), none⟩,
   ⟨some 8, .load true 3 (.t 7), none⟩,
   ⟨some 9, .call 175 [.t 6, .t 8], none⟩,
   ⟨some 10, .un .not (.t 9), none⟩]) (
 .cond (.t 10) (
  .seq (
  .reg [
    ⟨some 4, .mov (.k (.val (.bool false))), none⟩]) (
  .ret)) (
  .skip))) (
 .seq (
 .seq (
 .reg [
   ⟨some 11, .faddr 3 (.t 2), none⟩,
   ⟨some 12, .load false 1 (.t 11), none⟩,
   ⟨some 13, .faddr 3 (.t 3), none⟩,
   ⟨some 14, .load false 1 (.t 13), none⟩,
   ⟨some 15, .bin .neq (.t 12) (.t 14), none⟩]) (
 .cond (.t 15) (
  .seq (
  .reg [
    ⟨some 4, .mov (.k (.val (.bool false))), none⟩]) (
  .ret)) (
  .skip))) (
 .seq (
 .seq (
 .reg [
   ⟨some 16, .faddr 4 (.t 2), none⟩,
   ⟨some 17, .load false 1 (.t 16), none⟩,
   ⟨some 18, .faddr 4 (.t 3), none⟩,
   ⟨some 19, .load false 1 (.t 18), none⟩,
   ⟨some 20, .bin .neq (.t 17) (.t 19), none⟩]) (
 .cond (.t 20) (
  .seq (
  .reg [
    ⟨some 4, .mov (.k (.val (.bool false))), none⟩]) (
  .ret)) (
  .skip))) (
 .seq (
 .seq (
 .reg [
   ⟨some 21, .faddr 5 (.t 2), none⟩,
   ⟨some 22, .load false 1 (.t 21), none⟩,
   ⟨some 23, .faddr 5 (.t 3), none⟩,
   ⟨some 24, .load false 1 (.t 23), none⟩,
   ⟨some 25, .eqb true (.t 22) (.t 24), none⟩]) (
 .cond (.t 25) (
  .seq (
  .reg [
    ⟨some 4, .mov (.k (.val (.bool false))), none⟩]) (
  .ret)) (
  .skip))) (
 .seq (
 .reg [
   ⟨some 4, .mov (.k (.val (.bool true))), none⟩]) (
 .ret))))))
theorem ok159 : chkFn Tryz.prog 159 ir159 2 [.t 4] = true := by kernel_rfl

/-- loop.example/g00779/laws.eqTarget -/
def ir175 : PC :=
 .seq (
 .reg [
   ⟨some 2, .box (.t 0), none⟩,
   ⟨some 3, .box (.t 1), none⟩,
   ⟨some 4, .mov (.k (.val (.bool false))), none⟩]) (
 .seq (
 .seq (
 .reg [
   ⟨some 5, .faddr 0 (.t 2), none⟩,
   ⟨some 6, .load false 1 (.t 5), none⟩,
   ⟨some 7, .faddr 0 (.t 3), none⟩,
   ⟨some 8, .load false 1 (.t 7), none⟩,
   ⟨some 9, .bin .neq (.t 6) (.t 8), none⟩]) (
 .cond (.t 9) (
  .seq (
  .reg [
    ⟨some 4, .mov (.k (.val (.bool false))), none⟩]) (
  .ret)) (
  .skip))) (
 .seq (
 .seq (
 .reg [
   ⟨some 10, .faddr 1 (.t 2), none⟩,
   ⟨some 11, .load false 1 (.t 10), none⟩,
   ⟨some 12, .faddr 1 (.t 3), none⟩,
   ⟨some 13, .load false 1 (.t 12), none⟩,
   ⟨some 14, .bin .neq (.t 11) (.t 13), none⟩]) (
 .cond (.t 14) (
  .seq (
  .reg [
    ⟨some 4, .mov (.k (.val (.bool false))), none⟩]) (
  .ret)) (
  .skip))) (
 .seq (
 .seq (
 .reg [
   ⟨some 15, .faddr 2 (.t 2), none⟩,
   ⟨some 16, .load false 1 (.t 15), none⟩,
   ⟨some 17, .faddr 2 (.t 3), none⟩,
   ⟨some 18, .load false 1 (.t 17), none⟩,
   ⟨some 19, .bin .neq (.t 16) (.t 18), none⟩]) (
 .cond (.t 19) (
  .seq (
  .reg [
    ⟨some 4, .mov (.k (.val (.bool false))), none⟩]) (
  .ret)) (
  .skip))) (
 .seq (
 .reg [
   ⟨some 4, .mov (.k (.val (.bool true))), none⟩]) (
 .ret)))))
theorem ok175 : chkFn Tryz.prog 175 ir175 2 [.t 4] = true := by kernel_rfl

end Go.Proofs
end

/- Functions of the seat as data. MADE BY PROGRAM (print_ir.py). -/
section
set_option maxRecDepth 100000
namespace Go.Proofs
open Go.PW

/-- loop.example/g00779/spec.l03Clean -/
def ir139 : PC :=
 .seq (
 .reg [
   ⟨some 2, .mov (.k (.val (.str ⟨#[]⟩))), none⟩,
   ⟨some 3, .mov (.k (.val (.bool false))), none⟩]) (
 .seq (
 .reg [
   ⟨some 7, .mov (.t 0), none⟩,
   ⟨some 8, .call 161 [.t 7], none⟩,
   ⟨some 6, .mov (.t 8), none⟩,
   ⟨some 9, .ext 0 (.t 6), none⟩,
   ⟨some 10, .ext 1 (.t 6), none⟩,
   ⟨some 4, .alloc [.val (.str ⟨#[]⟩), .val (.str ⟨#[]⟩), .val (.str ⟨#[]⟩), .val (.int .i64 0), .val (.str ⟨#[]⟩), .val (.str ⟨#[]⟩), .val (.str ⟨#[]⟩), .val (.bool false), .val (.bool false)], none⟩,
   ⟨none, .store 9 (.t 4) (.t 9), none⟩,
   ⟨some 5, .mov (.t 10), none⟩]) (
 .seq (
 .seq (
 .reg [
   ⟨some 11, .mov (.t 5), none⟩,
   ⟨some 12, .un .not (.t 11), none⟩,
   ⟨some 13, .mov (.t 12), none⟩,
   ⟨some 14, .faddr 0 (.t 4), some (13, false)⟩,
   ⟨some 15, .load false 1 (.t 14), some (13, false)⟩,
   ⟨some 16, .call 162 [.t 15], some (13, false)⟩,
   ⟨some 17, .un .not (.t 16), some (13, false)⟩,
   ⟨some 18, .pick (.t 13) (.k (.val (.bool true))) (.t 17), none⟩]) (
 .cond (.t 18) (
  .seq (
  .reg [
    ⟨some 2, .mov (.k (.val (.str ⟨#[]⟩))), none⟩,
    ⟨some 3, .mov (.k (.val (.bool false))), none⟩]) (
  .ret)) (
  .skip))) (
 .seq (
 .reg [
   ⟨some 19, .faddr 8 (.t 4), none⟩,
   ⟨none, .store 1 (.t 19) (.k (.val (.bool false))), none⟩]) (
 .seq (
 .reg [
   ⟨some 20, .faddr 6 (.t 4), none⟩,
   ⟨none, .store 1 (.t 20) (.k (.val (.str ⟨#[]⟩))), none⟩]) (
 .seq (
 .reg [
   ⟨some 21, .load true 9 (.t 4), none⟩,
   ⟨some 22, .call 163 [.t 21], none⟩,
   ⟨some 2, .mov (.t 22), none⟩,
   ⟨some 3, .mov (.k (.val (.bool true))), none⟩]) (
 .ret))))))
theorem ok139 : chkFn Tryz.prog 139 ir139 1 [.t 2, .t 3] = true := by kernel_rfl

/-- loop.example/g00779/spec.l04Name -/
def ir98 : PC :=
 .seq (
 .reg [
   ⟨some 2, .mov (.k (.val (.bool false))), none⟩]) (
 .seq (
 .seq (
 .reg [
   ⟨some 4, .mov (.t 0), none⟩,
   ⟨some 5, .lens (.t 4), none⟩,
   ⟨some 6, .call 56 [.t 5, .k (.val (.int .i64 1)), .k (.val (.int .i64 24))], none⟩,
   ⟨some 7, .un .not (.t 6), none⟩]) (
 .cond (.t 7) (
  .seq (
  .reg [
    ⟨some 2, .mov (.k (.val (.bool false))), none⟩]) (
  .ret)) (
  .skip))) (
 .seq (
 .seq (
 .reg [
   ⟨some 3, .mov (.k (.val (.int .i64 0))), none⟩]) (
 .block 0 (
  .loop (.ghost (
   .seq (
   .seq (
   .reg [
     ⟨some 8, .mov (.t 3), none⟩,
     ⟨some 9, .mov (.t 0), none⟩,
     ⟨some 10, .lens (.t 9), none⟩,
     ⟨some 11, .bin .lss (.t 8) (.t 10), none⟩]) (
   .cond (.t 11) (
    .skip) (
    .exit 0))) (
   .seq (
   .block 1 (
    .seq (
    .reg [
      ⟨some 14, .mov (.t 0), none⟩,
      ⟨some 15, .mov (.t 3), none⟩,
      ⟨some 16, .idx (.t 14) (.t 15), none⟩,
      ⟨some 17, .bin .lss (.t 16) (.k (.val (.int .u8 97))), none⟩,
      ⟨some 18, .mov (.t 17), none⟩,
      ⟨some 19, .mov (.t 0), some (18, false)⟩,
      ⟨some 20, .mov (.t 3), some (18, false)⟩,
      ⟨some 21, .idx (.t 19) (.t 20), some (18, false)⟩,
      ⟨some 22, .bin .gtr (.t 21) (.k (.val (.int .u8 122))), some (18, false)⟩,
      ⟨some 23, .pick (.t 18) (.k (.val (.bool true))) (.t 22), none⟩,
      ⟨some 24, .mov (.t 23), none⟩,
      ⟨some 25, .mov (.t 0), some (24, true)⟩,
      ⟨some 26, .mov (.t 3), some (24, true)⟩,
      ⟨some 27, .idx (.t 25) (.t 26), some (24, true)⟩,
      ⟨some 28, .bin .neq (.t 27) (.k (.val (.int .u8 45))), some (24, true)⟩,
      ⟨some 29, .mov (.t 28), some (24, true)⟩,
      ⟨some 30, .mov (.t 3), some (29, false)⟩,
      ⟨some 31, .bin .eql (.t 30) (.k (.val (.int .i64 0))), some (29, false)⟩,
      ⟨some 32, .pick (.t 29) (.k (.val (.bool true))) (.t 31), some (24, true)⟩,
      ⟨some 33, .pick (.t 24) (.t 32) (.k (.val (.bool false))), none⟩]) (
    .cond (.t 33) (
     .seq (
     .reg [
       ⟨some 2, .mov (.k (.val (.bool false))), none⟩]) (
     .ret)) (
     .skip)))) (
   .reg [
     ⟨some 12, .mov (.t 3), none⟩,
     ⟨some 13, .bin .add (.t 12) (.k (.val (.int .i64 1))), none⟩,
     ⟨some 3, .mov (.t 13), none⟩]))))))) (
 .seq (
 .reg [
   ⟨some 2, .mov (.k (.val (.bool true))), none⟩]) (
 .ret))))
theorem ok98 : chkFn Tryz.prog 98 ir98 1 [.t 2] = true := by kernel_rfl

/-- loop.example/g00779/spec.l04Blank -/
def ir138 : PC :=
 .seq (
 .reg [
   ⟨some 2, .mov (.k (.val (.bool false))), none⟩]) (
 .seq (
 .reg [
   ⟨some 3, .mov (.t 0), none⟩,
   ⟨some 4, .bin .eql (.t 3) (.k (.val (.int .u8 32))), none⟩,
   ⟨some 5, .mov (.t 4), none⟩,
   ⟨some 6, .mov (.t 0), some (5, false)⟩,
   ⟨some 7, .bin .eql (.t 6) (.k (.val (.int .u8 9))), some (5, false)⟩,
   ⟨some 8, .pick (.t 5) (.k (.val (.bool true))) (.t 7), none⟩,
   ⟨some 2, .mov (.t 8), none⟩]) (
 .ret))
theorem ok138 : chkFn Tryz.prog 138 ir138 1 [.t 2] = true := by kernel_rfl

/-- loop.example/g00779/spec.l04Word -/
def ir100 : PC :=
 .seq (
 .reg [
   ⟨some 2, .mov (.k (.val (.bool false))), none⟩]) (
 .seq (
 .seq (
 .reg [
   ⟨some 3, .mov (.k (.val (.int .i64 0))), none⟩]) (
 .block 0 (
  .loop (.ghost (
   .seq (
   .seq (
   .reg [
     ⟨some 4, .mov (.t 3), none⟩,
     ⟨some 5, .mov (.t 0), none⟩,
     ⟨some 6, .lens (.t 5), none⟩,
     ⟨some 7, .bin .lss (.t 4) (.t 6), none⟩]) (
   .cond (.t 7) (
    .skip) (
    .exit 0))) (
   .seq (
   .block 1 (
    .seq (
    .reg [
      ⟨some 10, .mov (.t 0), none⟩,
      ⟨some 11, .mov (.t 3), none⟩,
      ⟨some 12, .idx (.t 10) (.t 11), none⟩,
      ⟨some 13, .call 138 [.t 12], none⟩,
      ⟨some 14, .mov (.t 13), none⟩,
      ⟨some 15, .mov (.t 0), some (14, false)⟩,
      ⟨some 16, .mov (.t 3), some (14, false)⟩,
      ⟨some 17, .idx (.t 15) (.t 16), some (14, false)⟩,
      ⟨some 18, .bin .eql (.t 17) (.k (.val (.int .u8 59))), some (14, false)⟩,
      ⟨some 19, .pick (.t 14) (.k (.val (.bool true))) (.t 18), none⟩]) (
    .cond (.t 19) (
     .seq (
     .reg [
       ⟨some 2, .mov (.k (.val (.bool false))), none⟩]) (
     .ret)) (
     .skip)))) (
   .reg [
     ⟨some 8, .mov (.t 3), none⟩,
     ⟨some 9, .bin .add (.t 8) (.k (.val (.int .i64 1))), none⟩,
     ⟨some 3, .mov (.t 9), none⟩]))))))) (
 .seq (
 .reg [
   ⟨some 20, .mov (.t 0), none⟩,
   ⟨some 21, .lens (.t 20), none⟩,
   ⟨some 22, .bin .gtr (.t 21) (.k (.val (.int .i64 0))), none⟩,
   ⟨some 2, .mov (.t 22), none⟩]) (
 .ret)))
theorem ok100 : chkFn Tryz.prog 100 ir100 1 [.t 2] = true := by kernel_rfl

/-- loop.example/g00779/spec.l04At -/
def ir99 : PC :=
 .seq (
 .reg [
   ⟨some 4, .mov (.k (.val (.int .i64 0))), none⟩]) (
 .seq (
 .seq (
 .reg [
   ⟨some 5, .mov (.k (.val (.int .i64 0))), none⟩]) (
 .block 0 (
  .loop (.ghost (
   .seq (
   .seq (
   .reg [
     ⟨some 6, .mov (.t 5), none⟩,
     ⟨some 7, .mov (.t 0), none⟩,
     ⟨some 8, .len (.t 7), none⟩,
     ⟨some 9, .bin .lss (.t 6) (.t 8), none⟩]) (
   .cond (.t 9) (
    .skip) (
    .exit 0))) (
   .seq (
   .block 1 (
    .seq (
    .reg [
      ⟨some 12, .mov (.t 0), none⟩,
      ⟨some 13, .mov (.t 5), none⟩,
      ⟨some 14, .iaddr 2 (.t 12) (.t 13), none⟩,
      ⟨some 15, .faddr 0 (.t 14), none⟩,
      ⟨some 16, .load false 1 (.t 15), none⟩,
      ⟨some 17, .mov (.t 1), none⟩,
      ⟨some 18, .bin .eql (.t 16) (.t 17), none⟩]) (
    .cond (.t 18) (
     .seq (
     .reg [
       ⟨some 19, .mov (.t 5), none⟩,
       ⟨some 4, .mov (.t 19), none⟩]) (
     .ret)) (
     .skip)))) (
   .reg [
     ⟨some 10, .mov (.t 5), none⟩,
     ⟨some 11, .bin .add (.t 10) (.k (.val (.int .i64 1))), none⟩,
     ⟨some 5, .mov (.t 11), none⟩]))))))) (
 .seq (
 .reg [
   ⟨some 4, .mov (.k (.val (.int .i64 (-1)))), none⟩]) (
 .ret)))
theorem ok99 : chkFn Tryz.prog 99 ir99 2 [.t 4] = true := by kernel_rfl

/-- loop.example/g00779/spec.l01Has -/
def ir140 : PC :=
 .seq (
 .reg [
   ⟨some 4, .mov (.k (.val (.bool false))), none⟩]) (
 .seq (
 .seq (
 .reg [
   ⟨some 5, .mov (.k (.val (.int .i64 0))), none⟩]) (
 .block 0 (
  .loop (.ghost (
   .seq (
   .seq (
   .reg [
     ⟨some 6, .mov (.t 5), none⟩,
     ⟨some 7, .mov (.t 0), none⟩,
     ⟨some 8, .len (.t 7), none⟩,
     ⟨some 9, .bin .lss (.t 6) (.t 8), none⟩]) (
   .cond (.t 9) (
    .skip) (
    .exit 0))) (
   .seq (
   .block 1 (
    .seq (
    .reg [
      ⟨some 12, .mov (.t 0), none⟩,
      ⟨some 13, .mov (.t 5), none⟩,
      ⟨some 14, .iaddr 1 (.t 12) (.t 13), none⟩,
      ⟨some 15, .load false 1 (.t 14), none⟩,
      ⟨some 16, .mov (.t 1), none⟩,
      ⟨some 17, .bin .eql (.t 15) (.t 16), none⟩]) (
    .cond (.t 17) (
     .seq (
     .reg [
       ⟨some 4, .mov (.k (.val (.bool true))), none⟩]) (
     .ret)) (
     .skip)))) (
   .reg [
     ⟨some 10, .mov (.t 5), none⟩,
     ⟨some 11, .bin .add (.t 10) (.k (.val (.int .i64 1))), none⟩,
     ⟨some 5, .mov (.t 11), none⟩]))))))) (
 .seq (
 .reg [
   ⟨some 4, .mov (.k (.val (.bool false))), none⟩]) (
 .ret)))
theorem ok140 : chkFn Tryz.prog 140 ir140 2 [.t 4] = true := by kernel_rfl

/-- loop.example/g00779/spec.l00SameTexts -/
def ir102 : PC :=
 .seq (
 .reg [
   ⟨some 4, .mov (.k (.val (.bool false))), none⟩]) (
 .seq (
 .seq (
 .reg [
   ⟨some 6, .mov (.t 0), none⟩,
   ⟨some 7, .len (.t 6), none⟩,
   ⟨some 8, .mov (.t 1), none⟩,
   ⟨some 9, .len (.t 8), none⟩,
   ⟨some 10, .bin .neq (.t 7) (.t 9), none⟩]) (
 .cond (.t 10) (
  .seq (
  .reg [
    ⟨some 4, .mov (.k (.val (.bool false))), none⟩]) (
  .ret)) (
  .skip))) (
 .seq (
 .seq (
 .reg [
   ⟨some 5, .mov (.k (.val (.int .i64 0))), none⟩]) (
 .block 0 (
  .loop (.ghost (
   .seq (
   .seq (
   .reg [
     ⟨some 11, .mov (.t 5), none⟩,
     ⟨some 12, .mov (.t 0), none⟩,
     ⟨some 13, .len (.t 12), none⟩,
     ⟨some 14, .bin .lss (.t 11) (.t 13), none⟩]) (
   .cond (.t 14) (
    .skip) (
    .exit 0))) (
   .seq (
   .block 1 (
    .seq (
    .draw [
      ⟨some 17, .mov (.t 0), none⟩,
      ⟨some 18, .mov (.t 5), none⟩,
      ⟨some 19, .iaddr 1 (.t 17) (.t 18), none⟩,
      ⟨some 20, .load false 1 (.t 19), none⟩,
      ⟨some 21, .mov (.t 1), none⟩,
      ⟨some 22, .mov (.t 5), none⟩,
      ⟨some 23, .iaddr 1 (.t 21) (.t 22), none⟩,
      ⟨some 24, .load false 1 (.t 23), none⟩] [
      ⟨some 25, .bin .neq (.t 20) (.t 24), none⟩]) (
    .cond (.t 25) (
     .seq (
     .reg [
       ⟨some 4, .mov (.k (.val (.bool false))), none⟩]) (
     .ret)) (
     .skip)))) (
   .reg [
     ⟨some 15, .mov (.t 5), none⟩,
     ⟨some 16, .bin .add (.t 15) (.k (.val (.int .i64 1))), none⟩,
     ⟨some 5, .mov (.t 16), none⟩]))))))) (
 .seq (
 .reg [
   ⟨some 4, .mov (.k (.val (.bool true))), none⟩]) (
 .ret))))
theorem ok102 : chkFn Tryz.prog 102 ir102 2 [.t 4] = true := by kernel_rfl

def ir101_from4 : PC :=
 .seq (
 .reg [
   ⟨some 89, .load true 3 (.t 3), none⟩,
   ⟨none, .store 3 (.t 2) (.t 89), none⟩]) (
 .ret)
def ir101_from3 : PC :=
 .seq (
 .seq (
 .reg [
   ⟨some 43, .mov (.t 0), none⟩,
   ⟨some 44, .call 99 [.t 43, .k (.val (.str ⟨#[114, 101, 112, 111, 114, 116, 45, 117, 114, 105]⟩))], none⟩,
   ⟨some 5, .mov (.t 44), none⟩]) (
 .seq (
 .reg [
   ⟨some 45, .mov (.t 5), none⟩,
   ⟨some 46, .bin .geq (.t 45) (.k (.val (.int .i64 0))), none⟩]) (
 .cond (.t 46) (
  .seq (
  .reg [
    ⟨some 6, .mov (.k (.val (.int .i64 0))), none⟩]) (
  .block 0 (
   .loop (.ghost (
    .seq (
    .seq (
    .reg [
      ⟨some 47, .mov (.t 6), none⟩,
      ⟨some 48, .mov (.t 0), none⟩,
      ⟨some 49, .mov (.t 5), none⟩,
      ⟨some 50, .iaddr 2 (.t 48) (.t 49), none⟩,
      ⟨some 51, .faddr 1 (.t 50), none⟩,
      ⟨some 52, .load false 1 (.t 51), none⟩,
      ⟨some 53, .len (.t 52), none⟩,
      ⟨some 54, .bin .lss (.t 47) (.t 53), none⟩]) (
    .cond (.t 54) (
     .skip) (
     .exit 0))) (
    .seq (
    .block 1 (
     .seq (
     .reg [
       ⟨some 58, .mov (.t 0), none⟩,
       ⟨some 59, .mov (.t 5), none⟩,
       ⟨some 60, .iaddr 2 (.t 58) (.t 59), none⟩,
       ⟨some 61, .faddr 1 (.t 60), none⟩,
       ⟨some 62, .load false 1 (.t 61), none⟩,
       ⟨some 63, .mov (.t 6), none⟩,
       ⟨some 64, .iaddr 1 (.t 62) (.t 63), none⟩,
       ⟨some 65, .load false 1 (.t 64), none⟩,
       ⟨some 66, .call 139 [.t 65], none⟩,
       ⟨some 57, .mov (.t 66), none⟩,
       ⟨some 67, .ext 0 (.t 57), none⟩,
       ⟨some 68, .ext 1 (.t 57), none⟩,
       ⟨some 7, .mov (.t 67), none⟩,
       ⟨some 8, .mov (.t 68), none⟩]) (
     .seq (
     .reg [
       ⟨some 69, .mov (.t 8), none⟩,
       ⟨some 70, .mov (.t 69), none⟩,
       ⟨some 71, .faddr 1 (.t 3), some (70, true)⟩,
       ⟨some 72, .load false 1 (.t 71), some (70, true)⟩,
       ⟨some 73, .mov (.t 7), some (70, true)⟩,
       ⟨some 74, .call 140 [.t 72, .t 73], some (70, true)⟩,
       ⟨some 75, .un .not (.t 74), some (70, true)⟩,
       ⟨some 76, .pick (.t 70) (.t 75) (.k (.val (.bool false))), none⟩,
       ⟨some 77, .mov (.t 76), none⟩,
       ⟨some 78, .faddr 1 (.t 3), some (77, true)⟩,
       ⟨some 79, .load false 1 (.t 78), some (77, true)⟩,
       ⟨some 80, .len (.t 79), some (77, true)⟩,
       ⟨some 81, .bin .lss (.t 80) (.k (.val (.int .i64 4))), some (77, true)⟩,
       ⟨some 82, .pick (.t 77) (.t 81) (.k (.val (.bool false))), none⟩]) (
     .cond (.t 82) (
      .reg [
        ⟨some 83, .faddr 1 (.t 3), none⟩,
        ⟨some 84, .load false 1 (.t 83), none⟩,
        ⟨some 85, .mov (.t 7), none⟩,
        ⟨some 86, .lit 9 1 [.t 85], none⟩,
        ⟨some 87, .app 9 1 16 (.t 84) (.t 86), none⟩,
        ⟨some 88, .faddr 1 (.t 3), none⟩,
        ⟨none, .store 1 (.t 88) (.t 87), none⟩]) (
      .skip))))) (
    .reg [
      ⟨some 55, .mov (.t 6), none⟩,
      ⟨some 56, .bin .add (.t 55) (.k (.val (.int .i64 1))), none⟩,
      ⟨some 6, .mov (.t 56), none⟩]))))))) (
  .skip)))) (
 ir101_from4)
/-- loop.example/g00779/spec.l04Make -/
def ir101 : PC :=
 .seq (
 .reg [
   ⟨some 2, .alloc [.val (.str ⟨#[]⟩), .emp 1, .emp 2], none⟩]) (
 .seq (
 .reg [
   ⟨some 9, .lit 9 1 [], none⟩,
   ⟨some 10, .mov (.t 0), none⟩,
   ⟨some 11, .build [.val (.str ⟨#[]⟩), .emp 1, .emp 2] [(1, 1, .t 9), (2, 1, .t 10)], none⟩,
   ⟨some 3, .alloc [.val (.str ⟨#[]⟩), .emp 1, .emp 2], none⟩,
   ⟨none, .store 3 (.t 3) (.t 11), none⟩]) (
 .seq (
 .seq (
 .reg [
   ⟨some 12, .mov (.t 0), none⟩,
   ⟨some 13, .call 99 [.t 12, .k (.val (.str ⟨#[114, 101, 112, 111, 114, 116, 45, 116, 111]⟩))], none⟩,
   ⟨some 4, .mov (.t 13), none⟩]) (
 .seq (
 .reg [
   ⟨some 14, .mov (.t 4), none⟩,
   ⟨some 15, .bin .geq (.t 14) (.k (.val (.int .i64 0))), none⟩,
   ⟨some 16, .mov (.t 15), none⟩,
   ⟨some 17, .mov (.t 0), some (16, true)⟩,
   ⟨some 18, .mov (.t 4), some (16, true)⟩,
   ⟨some 19, .iaddr 2 (.t 17) (.t 18), some (16, true)⟩,
   ⟨some 20, .faddr 1 (.t 19), some (16, true)⟩,
   ⟨some 21, .load false 1 (.t 20), some (16, true)⟩,
   ⟨some 22, .len (.t 21), some (16, true)⟩,
   ⟨some 23, .bin .gtr (.t 22) (.k (.val (.int .i64 0))), some (16, true)⟩,
   ⟨some 24, .pick (.t 16) (.t 23) (.k (.val (.bool false))), none⟩,
   ⟨some 25, .mov (.t 24), none⟩,
   ⟨some 26, .mov (.t 0), some (25, true)⟩,
   ⟨some 27, .mov (.t 4), some (25, true)⟩,
   ⟨some 28, .iaddr 2 (.t 26) (.t 27), some (25, true)⟩,
   ⟨some 29, .faddr 1 (.t 28), some (25, true)⟩,
   ⟨some 30, .load false 1 (.t 29), some (25, true)⟩,
   ⟨some 31, .iaddr 1 (.t 30) (.k (.val (.int .i64 0))), some (25, true)⟩,
   ⟨some 32, .load false 1 (.t 31), some (25, true)⟩,
   ⟨some 33, .call 105 [.t 32], some (25, true)⟩,
   ⟨some 34, .pick (.t 25) (.t 33) (.k (.val (.bool false))), none⟩]) (
 .cond (.t 34) (
  .reg [
    ⟨some 35, .mov (.t 0), none⟩,
    ⟨some 36, .mov (.t 4), none⟩,
    ⟨some 37, .iaddr 2 (.t 35) (.t 36), none⟩,
    ⟨some 38, .faddr 1 (.t 37), none⟩,
    ⟨some 39, .load false 1 (.t 38), none⟩,
    ⟨some 40, .iaddr 1 (.t 39) (.k (.val (.int .i64 0))), none⟩,
    ⟨some 41, .load false 1 (.t 40), none⟩,
    ⟨some 42, .faddr 0 (.t 3), none⟩,
    ⟨none, .store 1 (.t 42) (.t 41), none⟩]) (
  .skip)))) (
 ir101_from3)))
theorem ok101 : chkFn Tryz.prog 101 ir101 1 [.c 2 true 3] = true := by kernel_rfl

def ir55_l42 : PC :=
 .seq (
 .seq (
 .reg [
   ⟨some 42, .mov (.t 5), none⟩,
   ⟨some 43, .faddr 1 (.t 4), none⟩,
   ⟨some 44, .load false 1 (.t 43), none⟩,
   ⟨some 45, .len (.t 44), none⟩,
   ⟨some 46, .bin .lss (.t 42) (.t 45), none⟩]) (
 .cond (.t 46) (
  .skip) (
  .exit 2))) (
 .seq (
 .block 3 (
  .seq (
  .reg [
    ⟨some 49, .faddr 1 (.t 4), none⟩,
    ⟨some 50, .load false 1 (.t 49), none⟩,
    ⟨some 51, .mov (.t 5), none⟩,
    ⟨some 52, .iaddr 1 (.t 50) (.t 51), none⟩,
    ⟨some 53, .load false 1 (.t 52), none⟩,
    ⟨some 54, .call 100 [.t 53], none⟩,
    ⟨some 55, .un .not (.t 54), none⟩]) (
  .cond (.t 55) (
   .seq (
   .reg [
     ⟨some 2, .mov (.k (.val (.bool false))), none⟩]) (
   .ret)) (
   .skip)))) (
 .reg [
   ⟨some 47, .mov (.t 5), none⟩,
   ⟨some 48, .bin .add (.t 47) (.k (.val (.int .i64 1))), none⟩,
   ⟨some 5, .mov (.t 48), none⟩]))
def ir55_s42 : PC :=
 .block 2 (
  .loop (.ghost ir55_l42))
def ir55_l11 : PC :=
 .seq (
 .seq (
 .reg [
   ⟨some 11, .mov (.t 3), none⟩,
   ⟨some 12, .faddr 2 (.t 1), none⟩,
   ⟨some 13, .load false 1 (.t 12), none⟩,
   ⟨some 14, .len (.t 13), none⟩,
   ⟨some 15, .bin .lss (.t 11) (.t 14), none⟩]) (
 .cond (.t 15) (
  .skip) (
  .exit 0))) (
 .seq (
 .block 1 (
  .seq (
  .reg [
    ⟨some 18, .faddr 2 (.t 1), none⟩,
    ⟨some 19, .load false 1 (.t 18), none⟩,
    ⟨some 20, .mov (.t 3), none⟩,
    ⟨some 21, .iaddr 2 (.t 19) (.t 20), none⟩,
    ⟨some 22, .load true 2 (.t 21), none⟩,
    ⟨some 4, .alloc [.val (.str ⟨#[]⟩), .emp 1], none⟩,
    ⟨none, .store 2 (.t 4) (.t 22), none⟩]) (
  .seq (
  .seq (
  .reg [
    ⟨some 23, .faddr 0 (.t 4), none⟩,
    ⟨some 24, .load false 1 (.t 23), none⟩,
    ⟨some 25, .call 98 [.t 24], none⟩,
    ⟨some 26, .un .not (.t 25), none⟩,
    ⟨some 27, .mov (.t 26), none⟩,
    ⟨some 28, .faddr 2 (.t 1), some (27, false)⟩,
    ⟨some 29, .load false 1 (.t 28), some (27, false)⟩,
    ⟨some 30, .faddr 0 (.t 4), some (27, false)⟩,
    ⟨some 31, .load false 1 (.t 30), some (27, false)⟩,
    ⟨some 32, .call 99 [.t 29, .t 31], some (27, false)⟩,
    ⟨some 33, .mov (.t 3), some (27, false)⟩,
    ⟨some 34, .bin .neq (.t 32) (.t 33), some (27, false)⟩,
    ⟨some 35, .pick (.t 27) (.k (.val (.bool true))) (.t 34), none⟩,
    ⟨some 36, .mov (.t 35), none⟩,
    ⟨some 37, .faddr 1 (.t 4), some (36, false)⟩,
    ⟨some 38, .load false 1 (.t 37), some (36, false)⟩,
    ⟨some 39, .len (.t 38), some (36, false)⟩,
    ⟨some 40, .bin .gtr (.t 39) (.k (.val (.int .i64 8))), some (36, false)⟩,
    ⟨some 41, .pick (.t 36) (.k (.val (.bool true))) (.t 40), none⟩]) (
  .cond (.t 41) (
   .seq (
   .reg [
     ⟨some 2, .mov (.k (.val (.bool false))), none⟩]) (
   .ret)) (
   .skip))) (
  .seq (
  .reg [
    ⟨some 5, .mov (.k (.val (.int .i64 0))), none⟩]) (
  ir55_s42))))) (
 .reg [
   ⟨some 16, .mov (.t 3), none⟩,
   ⟨some 17, .bin .add (.t 16) (.k (.val (.int .i64 1))), none⟩,
   ⟨some 3, .mov (.t 17), none⟩]))
def ir55_from3 : PC :=
 .seq (
 .reg [
   ⟨some 56, .faddr 2 (.t 1), none⟩,
   ⟨some 57, .load false 1 (.t 56), none⟩,
   ⟨some 58, .call 101 [.t 57], none⟩,
   ⟨some 6, .alloc [.val (.str ⟨#[]⟩), .emp 1, .emp 2], none⟩,
   ⟨none, .store 3 (.t 6) (.t 58), none⟩]) (
 .seq (
 .reg [
   ⟨some 59, .faddr 0 (.t 1), none⟩,
   ⟨some 60, .load false 1 (.t 59), none⟩,
   ⟨some 61, .faddr 0 (.t 6), none⟩,
   ⟨some 62, .load false 1 (.t 61), none⟩,
   ⟨some 63, .bin .eql (.t 60) (.t 62), none⟩,
   ⟨some 64, .mov (.t 63), none⟩,
   ⟨some 65, .faddr 1 (.t 1), some (64, true)⟩,
   ⟨some 66, .load false 1 (.t 65), some (64, true)⟩,
   ⟨some 67, .faddr 1 (.t 6), some (64, true)⟩,
   ⟨some 68, .load false 1 (.t 67), some (64, true)⟩,
   ⟨some 69, .call 102 [.t 66, .t 68], some (64, true)⟩,
   ⟨some 70, .pick (.t 64) (.t 69) (.k (.val (.bool false))), none⟩,
   ⟨some 2, .mov (.t 70), none⟩]) (
 .ret))
/-- loop.example/g00779/spec.l04OK -/
def ir55 : PC :=
 .seq (
 .reg [
   ⟨some 1, .box (.t 0), none⟩,
   ⟨some 2, .mov (.k (.val (.bool false))), none⟩]) (
 .seq (
 .seq (
 .reg [
   ⟨some 7, .faddr 2 (.t 1), none⟩,
   ⟨some 8, .load false 1 (.t 7), none⟩,
   ⟨some 9, .len (.t 8), none⟩,
   ⟨some 10, .bin .gtr (.t 9) (.k (.val (.int .i64 8))), none⟩]) (
 .cond (.t 10) (
  .seq (
  .reg [
    ⟨some 2, .mov (.k (.val (.bool false))), none⟩]) (
  .ret)) (
  .skip))) (
 .seq (
 .seq (
 .reg [
   ⟨some 3, .mov (.k (.val (.int .i64 0))), none⟩]) (
 .block 0 (
  .loop (.ghost ir55_l11)))) (
 ir55_from3)))
theorem ok55 : chkFn Tryz.prog 55 ir55 1 [.t 2] = true := by kernel_rfl

end Go.Proofs
end

/- Functions of the seat as data. MADE BY PROGRAM (print_ir.py). -/
section
set_option maxRecDepth 100000
namespace Go.Proofs
open Go.PW

/-- loop.example/g00779/laws.szStringS -/
def ir52 : PC :=
 .seq (
 .reg [
   ⟨some 4, .mov (.k (.val (.int .i64 0))), none⟩]) (
 .seq (
 .reg [
   ⟨some 6, .mov (.t 1), none⟩,
   ⟨some 7, .mov (.t 0), none⟩,
   ⟨some 8, .len (.t 7), none⟩,
   ⟨some 9, .bin .sub (.t 6) (.t 8), none⟩,
   ⟨some 1, .mov (.t 9), none⟩]) (
 .seq (
 .seq (
 .reg [
   ⟨some 10, .mov (.t 1), none⟩,
   ⟨some 11, .bin .lss (.t 10) (.k (.val (.int .i64 0))), none⟩]) (
 .cond (.t 11) (
  .seq (
  .reg [
    ⟨some 4, .mov (.k (.val (.int .i64 (-1)))), none⟩]) (
  .ret)) (
  .skip))) (
 .seq (
 .seq (
 .reg [
   ⟨some 5, .mov (.k (.val (.int .i64 0))), none⟩]) (
 .block 0 (
  .loop (.ghost (
   .seq (
   .seq (
   .reg [
     ⟨some 12, .mov (.t 5), none⟩,
     ⟨some 13, .mov (.t 0), none⟩,
     ⟨some 14, .len (.t 13), none⟩,
     ⟨some 15, .bin .lss (.t 12) (.t 14), none⟩]) (
   .cond (.t 15) (
    .skip) (
    .exit 0))) (
   .seq (
   .block 1 (
    .seq (
    .reg [
      ⟨some 18, .mov (.t 1), none⟩,
      ⟨some 19, .mov (.t 0), none⟩,
      ⟨some 20, .mov (.t 5), none⟩,
      ⟨some 21, .iaddr 1 (.t 19) (.t 20), none⟩,
      ⟨some 22, .load false 1 (.t 21), none⟩,
      ⟨some 23, .lens (.t 22), none⟩,
      ⟨some 24, .bin .sub (.t 18) (.t 23), none⟩,
      ⟨some 1, .mov (.t 24), none⟩]) (
    .seq (
    .reg [
      ⟨some 25, .mov (.t 1), none⟩,
      ⟨some 26, .bin .lss (.t 25) (.k (.val (.int .i64 0))), none⟩]) (
    .cond (.t 26) (
     .seq (
     .reg [
       ⟨some 4, .mov (.k (.val (.int .i64 (-1)))), none⟩]) (
     .ret)) (
     .skip))))) (
   .reg [
     ⟨some 16, .mov (.t 5), none⟩,
     ⟨some 17, .bin .add (.t 16) (.k (.val (.int .i64 1))), none⟩,
     ⟨some 5, .mov (.t 17), none⟩]))))))) (
 .seq (
 .reg [
   ⟨some 27, .mov (.t 1), none⟩,
   ⟨some 4, .mov (.t 27), none⟩]) (
 .ret)))))
theorem ok52 : chkFn Tryz.prog 52 ir52 2 [.t 4] = true := by kernel_rfl

/-- loop.example/g00779/laws.szRule -/
def ir96 : PC :=
 .seq (
 .reg [
   ⟨some 2, .box (.t 0), none⟩,
   ⟨some 4, .mov (.k (.val (.int .i64 0))), none⟩]) (
 .seq (
 .reg [
   ⟨some 5, .mov (.t 1), none⟩,
   ⟨some 6, .faddr 0 (.t 2), none⟩,
   ⟨some 7, .load false 1 (.t 6), none⟩,
   ⟨some 8, .lens (.t 7), none⟩,
   ⟨some 9, .bin .sub (.t 5) (.t 8), none⟩,
   ⟨some 1, .mov (.t 9), none⟩]) (
 .seq (
 .seq (
 .reg [
   ⟨some 10, .mov (.t 1), none⟩,
   ⟨some 11, .bin .lss (.t 10) (.k (.val (.int .i64 0))), none⟩]) (
 .cond (.t 11) (
  .seq (
  .reg [
    ⟨some 4, .mov (.k (.val (.int .i64 (-1)))), none⟩]) (
  .ret)) (
  .skip))) (
 .seq (
 .reg [
   ⟨some 12, .faddr 1 (.t 2), none⟩,
   ⟨some 13, .load false 1 (.t 12), none⟩,
   ⟨some 14, .mov (.t 1), none⟩,
   ⟨some 15, .call 52 [.t 13, .t 14], none⟩,
   ⟨some 1, .mov (.t 15), none⟩]) (
 .seq (
 .seq (
 .reg [
   ⟨some 16, .mov (.t 1), none⟩,
   ⟨some 17, .bin .lss (.t 16) (.k (.val (.int .i64 0))), none⟩]) (
 .cond (.t 17) (
  .seq (
  .reg [
    ⟨some 4, .mov (.k (.val (.int .i64 (-1)))), none⟩]) (
  .ret)) (
  .skip))) (
 .seq (
 .reg [
   ⟨some 18, .mov (.t 1), none⟩,
   ⟨some 4, .mov (.t 18), none⟩]) (
 .ret))))))
theorem ok96 : chkFn Tryz.prog 96 ir96 2 [.t 4] = true := by kernel_rfl

/-- loop.example/g00779/laws.szRuleS -/
def ir53 : PC :=
 .seq (
 .reg [
   ⟨some 4, .mov (.k (.val (.int .i64 0))), none⟩]) (
 .seq (
 .reg [
   ⟨some 6, .mov (.t 1), none⟩,
   ⟨some 7, .mov (.t 0), none⟩,
   ⟨some 8, .len (.t 7), none⟩,
   ⟨some 9, .bin .sub (.t 6) (.t 8), none⟩,
   ⟨some 1, .mov (.t 9), none⟩]) (
 .seq (
 .seq (
 .reg [
   ⟨some 10, .mov (.t 1), none⟩,
   ⟨some 11, .bin .lss (.t 10) (.k (.val (.int .i64 0))), none⟩]) (
 .cond (.t 11) (
  .seq (
  .reg [
    ⟨some 4, .mov (.k (.val (.int .i64 (-1)))), none⟩]) (
  .ret)) (
  .skip))) (
 .seq (
 .seq (
 .reg [
   ⟨some 5, .mov (.k (.val (.int .i64 0))), none⟩]) (
 .block 0 (
  .loop (.ghost (
   .seq (
   .seq (
   .reg [
     ⟨some 12, .mov (.t 5), none⟩,
     ⟨some 13, .mov (.t 0), none⟩,
     ⟨some 14, .len (.t 13), none⟩,
     ⟨some 15, .bin .lss (.t 12) (.t 14), none⟩]) (
   .cond (.t 15) (
    .skip) (
    .exit 0))) (
   .seq (
   .block 1 (
    .seq (
    .reg [
      ⟨some 18, .mov (.t 0), none⟩,
      ⟨some 19, .mov (.t 5), none⟩,
      ⟨some 20, .iaddr 2 (.t 18) (.t 19), none⟩,
      ⟨some 21, .load true 2 (.t 20), none⟩,
      ⟨some 22, .mov (.t 1), none⟩,
      ⟨some 23, .call 96 [.t 21, .t 22], none⟩,
      ⟨some 1, .mov (.t 23), none⟩]) (
    .seq (
    .reg [
      ⟨some 24, .mov (.t 1), none⟩,
      ⟨some 25, .bin .lss (.t 24) (.k (.val (.int .i64 0))), none⟩]) (
    .cond (.t 25) (
     .seq (
     .reg [
       ⟨some 4, .mov (.k (.val (.int .i64 (-1)))), none⟩]) (
     .ret)) (
     .skip))))) (
   .reg [
     ⟨some 16, .mov (.t 5), none⟩,
     ⟨some 17, .bin .add (.t 16) (.k (.val (.int .i64 1))), none⟩,
     ⟨some 5, .mov (.t 17), none⟩]))))))) (
 .seq (
 .reg [
   ⟨some 26, .mov (.t 1), none⟩,
   ⟨some 4, .mov (.t 26), none⟩]) (
 .ret)))))
theorem ok53 : chkFn Tryz.prog 53 ir53 2 [.t 4] = true := by kernel_rfl

/-- loop.example/g00779/laws.szPolicy -/
def ir19 : PC :=
 .seq (
 .reg [
   ⟨some 2, .box (.t 0), none⟩,
   ⟨some 4, .mov (.k (.val (.int .i64 0))), none⟩]) (
 .seq (
 .reg [
   ⟨some 5, .mov (.t 1), none⟩,
   ⟨some 6, .faddr 0 (.t 2), none⟩,
   ⟨some 7, .load false 1 (.t 6), none⟩,
   ⟨some 8, .lens (.t 7), none⟩,
   ⟨some 9, .bin .sub (.t 5) (.t 8), none⟩,
   ⟨some 1, .mov (.t 9), none⟩]) (
 .seq (
 .seq (
 .reg [
   ⟨some 10, .mov (.t 1), none⟩,
   ⟨some 11, .bin .lss (.t 10) (.k (.val (.int .i64 0))), none⟩]) (
 .cond (.t 11) (
  .seq (
  .reg [
    ⟨some 4, .mov (.k (.val (.int .i64 (-1)))), none⟩]) (
  .ret)) (
  .skip))) (
 .seq (
 .reg [
   ⟨some 12, .faddr 1 (.t 2), none⟩,
   ⟨some 13, .load false 1 (.t 12), none⟩,
   ⟨some 14, .mov (.t 1), none⟩,
   ⟨some 15, .call 52 [.t 13, .t 14], none⟩,
   ⟨some 1, .mov (.t 15), none⟩]) (
 .seq (
 .seq (
 .reg [
   ⟨some 16, .mov (.t 1), none⟩,
   ⟨some 17, .bin .lss (.t 16) (.k (.val (.int .i64 0))), none⟩]) (
 .cond (.t 17) (
  .seq (
  .reg [
    ⟨some 4, .mov (.k (.val (.int .i64 (-1)))), none⟩]) (
  .ret)) (
  .skip))) (
 .seq (
 .reg [
   ⟨some 18, .faddr 2 (.t 2), none⟩,
   ⟨some 19, .load false 1 (.t 18), none⟩,
   ⟨some 20, .mov (.t 1), none⟩,
   ⟨some 21, .call 53 [.t 19, .t 20], none⟩,
   ⟨some 1, .mov (.t 21), none⟩]) (
 .seq (
 .seq (
 .reg [
   ⟨some 22, .mov (.t 1), none⟩,
   ⟨some 23, .bin .lss (.t 22) (.k (.val (.int .i64 0))), none⟩]) (
 .cond (.t 23) (
  .seq (
  .reg [
    ⟨some 4, .mov (.k (.val (.int .i64 (-1)))), none⟩]) (
  .ret)) (
  .skip))) (
 .seq (
 .reg [
   ⟨some 24, .mov (.t 1), none⟩,
   ⟨some 4, .mov (.t 24), none⟩]) (
 .ret))))))))
theorem ok19 : chkFn Tryz.prog 19 ir19 2 [.t 4] = true := by kernel_rfl

/-- loop.example/g00779/laws.toStringS -/
def ir60 : PC :=
 .seq (
 .reg [
   ⟨some 2, .mov (.k (.emp 1)), none⟩]) (
 .seq (
 .reg [
   ⟨some 5, .mov (.t 0), none⟩,
   ⟨some 6, .len (.t 5), none⟩,
   ⟨some 7, .mks 9 1 16 false [.val (.str ⟨#[]⟩)] (.t 6), none⟩,
   ⟨some 3, .mov (.t 7), none⟩]) (
 .seq (
 .seq (
 .reg [
   ⟨some 4, .mov (.k (.val (.int .i64 0))), none⟩]) (
 .block 0 (
  .loop (.ghost (
   .seq (
   .seq (
   .reg [
     ⟨some 8, .mov (.t 4), none⟩,
     ⟨some 9, .mov (.t 0), none⟩,
     ⟨some 10, .len (.t 9), none⟩,
     ⟨some 11, .bin .lss (.t 8) (.t 10), none⟩]) (
   .cond (.t 11) (
    .skip) (
    .exit 0))) (
   .seq (
   .block 1 (
    .reg [
      ⟨some 14, .mov (.t 3), none⟩,
      ⟨some 15, .mov (.t 4), none⟩,
      ⟨some 16, .mov (.t 0), none⟩,
      ⟨some 17, .mov (.t 4), none⟩,
      ⟨some 18, .iaddr 1 (.t 16) (.t 17), none⟩,
      ⟨some 19, .load false 1 (.t 18), none⟩,
      ⟨some 20, .iaddr 1 (.t 14) (.t 15), none⟩,
      ⟨none, .store 1 (.t 20) (.t 19), none⟩])) (
   .reg [
     ⟨some 12, .mov (.t 4), none⟩,
     ⟨some 13, .bin .add (.t 12) (.k (.val (.int .i64 1))), none⟩,
     ⟨some 4, .mov (.t 13), none⟩]))))))) (
 .seq (
 .reg [
   ⟨some 21, .mov (.t 3), none⟩,
   ⟨some 2, .mov (.t 21), none⟩]) (
 .ret))))
theorem ok60 : chkFn Tryz.prog 60 ir60 1 [.t 2] = true := by kernel_rfl

/-- loop.example/g00779/laws.toRule -/
def ir109 : PC :=
 .seq (
 .reg [
   ⟨some 1, .box (.t 0), none⟩,
   ⟨some 2, .alloc [.val (.str ⟨#[]⟩), .emp 1], none⟩]) (
 .seq (
 .reg [
   ⟨some 3, .alloc [.val (.str ⟨#[]⟩), .emp 1], none⟩]) (
 .seq (
 .reg [
   ⟨some 4, .faddr 0 (.t 1), none⟩,
   ⟨some 5, .load false 1 (.t 4), none⟩,
   ⟨some 6, .faddr 0 (.t 3), none⟩,
   ⟨none, .store 1 (.t 6) (.t 5), none⟩]) (
 .seq (
 .reg [
   ⟨some 7, .faddr 1 (.t 1), none⟩,
   ⟨some 8, .load false 1 (.t 7), none⟩,
   ⟨some 9, .call 60 [.t 8], none⟩,
   ⟨some 10, .faddr 1 (.t 3), none⟩,
   ⟨none, .store 1 (.t 10) (.t 9), none⟩]) (
 .seq (
 .reg [
   ⟨some 11, .load true 2 (.t 3), none⟩,
   ⟨none, .store 2 (.t 2) (.t 11), none⟩]) (
 .ret)))))
theorem ok109 : chkFn Tryz.prog 109 ir109 1 [.c 2 true 2] = true := by kernel_rfl

/-- loop.example/g00779/laws.toRuleS -/
def ir61 : PC :=
 .seq (
 .reg [
   ⟨some 2, .mov (.k (.emp 2)), none⟩]) (
 .seq (
 .reg [
   ⟨some 5, .mov (.t 0), none⟩,
   ⟨some 6, .len (.t 5), none⟩,
   ⟨some 7, .mks 118 2 40 true [.val (.str ⟨#[]⟩), .emp 1] (.t 6), none⟩,
   ⟨some 3, .mov (.t 7), none⟩]) (
 .seq (
 .seq (
 .reg [
   ⟨some 4, .mov (.k (.val (.int .i64 0))), none⟩]) (
 .block 0 (
  .loop (.ghost (
   .seq (
   .seq (
   .reg [
     ⟨some 8, .mov (.t 4), none⟩,
     ⟨some 9, .mov (.t 0), none⟩,
     ⟨some 10, .len (.t 9), none⟩,
     ⟨some 11, .bin .lss (.t 8) (.t 10), none⟩]) (
   .cond (.t 11) (
    .skip) (
    .exit 0))) (
   .seq (
   .block 1 (
    .reg [
      ⟨some 14, .mov (.t 3), none⟩,
      ⟨some 15, .mov (.t 4), none⟩,
      ⟨some 16, .mov (.t 0), none⟩,
      ⟨some 17, .mov (.t 4), none⟩,
      ⟨some 18, .iaddr 2 (.t 16) (.t 17), none⟩,
      ⟨some 19, .load true 2 (.t 18), none⟩,
      ⟨some 20, .call 109 [.t 19], none⟩,
      ⟨some 21, .iaddr 2 (.t 14) (.t 15), none⟩,
      ⟨none, .store 2 (.t 21) (.t 20), none⟩])) (
   .reg [
     ⟨some 12, .mov (.t 4), none⟩,
     ⟨some 13, .bin .add (.t 12) (.k (.val (.int .i64 1))), none⟩,
     ⟨some 4, .mov (.t 13), none⟩]))))))) (
 .seq (
 .reg [
   ⟨some 22, .mov (.t 3), none⟩,
   ⟨some 2, .mov (.t 22), none⟩]) (
 .ret))))
theorem ok61 : chkFn Tryz.prog 61 ir61 1 [.t 2] = true := by kernel_rfl

/-- loop.example/g00779/laws.toPolicy -/
def ir24 : PC :=
 .seq (
 .reg [
   ⟨some 1, .box (.t 0), none⟩,
   ⟨some 2, .alloc [.val (.str ⟨#[]⟩), .emp 1, .emp 2], none⟩]) (
 .seq (
 .reg [
   ⟨some 3, .alloc [.val (.str ⟨#[]⟩), .emp 1, .emp 2], none⟩]) (
 .seq (
 .reg [
   ⟨some 4, .faddr 0 (.t 1), none⟩,
   ⟨some 5, .load false 1 (.t 4), none⟩,
   ⟨some 6, .faddr 0 (.t 3), none⟩,
   ⟨none, .store 1 (.t 6) (.t 5), none⟩]) (
 .seq (
 .reg [
   ⟨some 7, .faddr 1 (.t 1), none⟩,
   ⟨some 8, .load false 1 (.t 7), none⟩,
   ⟨some 9, .call 60 [.t 8], none⟩,
   ⟨some 10, .faddr 1 (.t 3), none⟩,
   ⟨none, .store 1 (.t 10) (.t 9), none⟩]) (
 .seq (
 .reg [
   ⟨some 11, .faddr 2 (.t 1), none⟩,
   ⟨some 12, .load false 1 (.t 11), none⟩,
   ⟨some 13, .call 61 [.t 12], none⟩,
   ⟨some 14, .faddr 2 (.t 3), none⟩,
   ⟨none, .store 1 (.t 14) (.t 13), none⟩]) (
 .seq (
 .reg [
   ⟨some 15, .load true 3 (.t 3), none⟩,
   ⟨none, .store 3 (.t 2) (.t 15), none⟩]) (
 .ret))))))
theorem ok24 : chkFn Tryz.prog 24 ir24 1 [.c 2 true 3] = true := by kernel_rfl

/-- loop.example/g00779/laws.eqStringS -/
def ir82 : PC :=
 .seq (
 .reg [
   ⟨some 4, .mov (.k (.val (.bool false))), none⟩]) (
 .seq (
 .seq (
 .reg [
   ⟨some 6, .mov (.t 0), none⟩,
   ⟨some 7, .len (.t 6), none⟩,
   ⟨some 8, .mov (.t 1), none⟩,
   ⟨some 9, .len (.t 8), none⟩,
   ⟨some 10, .bin .neq (.t 7) (.t 9), none⟩]) (
 .cond (.t 10) (
  .seq (
  .reg [
    ⟨some 4, .mov (.k (.val (.bool false))), none⟩]) (
  .ret)) (
  .skip))) (
 .seq (
 .seq (
 .reg [
   ⟨some 5, .mov (.k (.val (.int .i64 0))), none⟩]) (
 .block 0 (
  .loop (.ghost (
   .seq (
   .seq (
   .reg [
     ⟨some 11, .mov (.t 5), none⟩,
     ⟨some 12, .mov (.t 0), none⟩,
     ⟨some 13, .len (.t 12), none⟩,
     ⟨some 14, .bin .lss (.t 11) (.t 13), none⟩]) (
   .cond (.t 14) (
    .skip) (
    .exit 0))) (
   .seq (
   .block 1 (
    .seq (
    .draw [
      ⟨some 17, .mov (.t 0), none⟩,
      ⟨some 18, .mov (.t 5), none⟩,
      ⟨some 19, .iaddr 1 (.t 17) (.t 18), none⟩,
      ⟨some 20, .load false 1 (.t 19), none⟩,
      ⟨some 21, .mov (.t 1), none⟩,
      ⟨some 22, .mov (.t 5), none⟩,
      ⟨some 23, .iaddr 1 (.t 21) (.t 22), none⟩,
      ⟨some 24, .load false 1 (.t 23), none⟩] [
      ⟨some 25, .bin .neq (.t 20) (.t 24), none⟩]) (
    .cond (.t 25) (
     .seq (
     .reg [
       ⟨some 4, .mov (.k (.val (.bool false))), none⟩]) (
     .ret)) (
     .skip)))) (
   .reg [
     ⟨some 15, .mov (.t 5), none⟩,
     ⟨some 16, .bin .add (.t 15) (.k (.val (.int .i64 1))), none⟩,
     ⟨some 5, .mov (.t 16), none⟩]))))))) (
 .seq (
 .reg [
   ⟨some 4, .mov (.k (.val (.bool true))), none⟩]) (
 .ret))))
theorem ok82 : chkFn Tryz.prog 82 ir82 2 [.t 4] = true := by kernel_rfl

/-- loop.example/g00779/laws.eqRule -/
def ir130 : PC :=
 .seq (
 .reg [
   ⟨some 2, .box (.t 0), none⟩,
   ⟨some 3, .box (.t 1), none⟩,
   ⟨some 4, .mov (.k (.val (.bool false))), none⟩]) (
 .seq (
 .seq (
 .reg [
   ⟨some 5, .faddr 0 (.t 2), none⟩,
   ⟨some 6, .load false 1 (.t 5), none⟩,
   ⟨some 7, .faddr 0 (.t 3), none⟩,
   ⟨some 8, .load false 1 (.t 7), none⟩,
   ⟨some 9, .bin .neq (.t 6) (.t 8), none⟩]) (
 .cond (.t 9) (
  .seq (
  .reg [
    ⟨some 4, .mov (.k (.val (.bool false))), none⟩]) (
  .ret)) (
  .skip))) (
 .seq (
 .seq (
 .reg [
   ⟨some 10, .faddr 1 (.t 2), none⟩,
   ⟨some 11, .load false 1 (.t 10), none⟩,
   ⟨some 12, .faddr 1 (.t 3), none⟩,
   ⟨some 13, .load false 1 (.t 12), none⟩,
   ⟨some 14, .call 82 [.t 11, .t 13], none⟩,
   ⟨some 15, .un .not (.t 14), none⟩]) (
 .cond (.t 15) (
  .seq (
  .reg [
    ⟨some 4, .mov (.k (.val (.bool false))), none⟩]) (
  .ret)) (
  .skip))) (
 .seq (
 .reg [
   ⟨some 4, .mov (.k (.val (.bool true))), none⟩]) (
 .ret))))
theorem ok130 : chkFn Tryz.prog 130 ir130 2 [.t 4] = true := by kernel_rfl

/-- loop.example/g00779/laws.eqRuleS -/
def ir83 : PC :=
 .seq (
 .reg [
   ⟨some 4, .mov (.k (.val (.bool false))), none⟩]) (
 .seq (
 .seq (
 .reg [
   ⟨some 6, .mov (.t 0), none⟩,
   ⟨some 7, .len (.t 6), none⟩,
   ⟨some 8, .mov (.t 1), none⟩,
   ⟨some 9, .len (.t 8), none⟩,
   ⟨some 10, .bin .neq (.t 7) (.t 9), none⟩]) (
 .cond (.t 10) (
  .seq (
  .reg [
    ⟨some 4, .mov (.k (.val (.bool false))), none⟩]) (
  .ret)) (
  .skip))) (
 .seq (
 .seq (
 .reg [
   ⟨some 5, .mov (.k (.val (.int .i64 0))), none⟩]) (
 .block 0 (
  .loop (.ghost (
   .seq (
   .seq (
   .reg [
     ⟨some 11, .mov (.t 5), none⟩,
     ⟨some 12, .mov (.t 0), none⟩,
     ⟨some 13, .len (.t 12), none⟩,
     ⟨some 14, .bin .lss (.t 11) (.t 13), none⟩]) (
   .cond (.t 14) (
    .skip) (
    .exit 0))) (
   .seq (
   .block 1 (
    .seq (
    .draw [
      ⟨some 17, .mov (.t 0), none⟩,
      ⟨some 18, .mov (.t 5), none⟩,
      ⟨some 19, .iaddr 2 (.t 17) (.t 18), none⟩,
      ⟨some 20, .load true 2 (.t 19), none⟩,
      ⟨some 21, .mov (.t 1), none⟩,
      ⟨some 22, .mov (.t 5), none⟩,
      ⟨some 23, .iaddr 2 (.t 21) (.t 22), none⟩,
      ⟨some 24, .load true 2 (.t 23), none⟩] [
      ⟨some 25, .call 130 [.t 20, .t 24], none⟩,
      ⟨some 26, .un .not (.t 25), none⟩]) (
    .cond (.t 26) (
     .seq (
     .reg [
       ⟨some 4, .mov (.k (.val (.bool false))), none⟩]) (
     .ret)) (
     .skip)))) (
   .reg [
     ⟨some 15, .mov (.t 5), none⟩,
     ⟨some 16, .bin .add (.t 15) (.k (.val (.int .i64 1))), none⟩,
     ⟨some 5, .mov (.t 16), none⟩]))))))) (
 .seq (
 .reg [
   ⟨some 4, .mov (.k (.val (.bool true))), none⟩]) (
 .ret))))
theorem ok83 : chkFn Tryz.prog 83 ir83 2 [.t 4] = true := by kernel_rfl

/-- loop.example/g00779/laws.eqPolicy -/
def ir36 : PC :=
 .seq (
 .reg [
   ⟨some 2, .box (.t 0), none⟩,
   ⟨some 3, .box (.t 1), none⟩,
   ⟨some 4, .mov (.k (.val (.bool false))), none⟩]) (
 .seq (
 .seq (
 .reg [
   ⟨some 5, .faddr 0 (.t 2), none⟩,
   ⟨some 6, .load false 1 (.t 5), none⟩,
   ⟨some 7, .faddr 0 (.t 3), none⟩,
   ⟨some 8, .load false 1 (.t 7), none⟩,
   ⟨some 9, .bin .neq (.t 6) (.t 8), none⟩]) (
 .cond (.t 9) (
  .seq (
  .reg [
    ⟨some 4, .mov (.k (.val (.bool false))), none⟩]) (
  .ret)) (
  .skip))) (
 .seq (
 .seq (
 .reg [
   ⟨some 10, .faddr 1 (.t 2), none⟩,
   ⟨some 11, .load false 1 (.t 10), none⟩,
   ⟨some 12, .faddr 1 (.t 3), none⟩,
   ⟨some 13, .load false 1 (.t 12), none⟩,
   ⟨some 14, .call 82 [.t 11, .t 13], none⟩,
   ⟨some 15, .un .not (.t 14), none⟩]) (
 .cond (.t 15) (
  .seq (
  .reg [
    ⟨some 4, .mov (.k (.val (.bool false))), none⟩]) (
  .ret)) (
  .skip))) (
 .seq (
 .seq (
 .reg [
   ⟨some 16, .faddr 2 (.t 2), none⟩,
   ⟨some 17, .load false 1 (.t 16), none⟩,
   ⟨some 18, .faddr 2 (.t 3), none⟩,
   ⟨some 19, .load false 1 (.t 18), none⟩,
   ⟨some 20, .call 83 [.t 17, .t 19], none⟩,
   ⟨some 21, .un .not (.t 20), none⟩]) (
 .cond (.t 21) (
  .seq (
  .reg [
    ⟨some 4, .mov (.k (.val (.bool false))), none⟩]) (
  .ret)) (
  .skip))) (
 .seq (
 .reg [
   ⟨some 4, .mov (.k (.val (.bool true))), none⟩]) (
 .ret)))))
theorem ok36 : chkFn Tryz.prog 36 ir36 2 [.t 4] = true := by kernel_rfl

end Go.Proofs
end

/- Functions of the seat as data. MADE BY PROGRAM (print_ir.py). -/
section
set_option maxRecDepth 100000
namespace Go.Proofs
open Go.PW

/-- loop.example/g00779/impl.isRule -/
def ir111 : PC :=
 .seq (
 .reg [
   ⟨some 2, .mov (.k (.val (.bool false))), none⟩]) (
 .seq (
 .seq (
 .reg [
   ⟨some 4, .mov (.t 0), none⟩,
   ⟨some 5, .lens (.t 4), none⟩,
   ⟨some 6, .mn (.t 5) (.k (.val (.int .i64 25))), none⟩,
   ⟨some 7, .mov (.k (.val (.int .i64 0))), none⟩]) (
 .block 0 (
  .loop (.ghost (
   .seq (
   .reg [
     ⟨some 8, .bin .lss (.t 7) (.t 6), none⟩]) (
   .seq (
   .cond (.t 8) (
    .skip) (
    .exit 0)) (
   .seq (
   .block 1 (
    .seq (
    .reg [
      ⟨some 9, .mov (.t 7), none⟩,
      ⟨some 3, .mov (.t 9), none⟩]) (
    .seq (
    .reg [
      ⟨some 10, .mov (.t 0), none⟩,
      ⟨some 11, .mov (.t 3), none⟩,
      ⟨some 12, .idx (.t 10) (.t 11), none⟩,
      ⟨some 13, .call 148 [.t 12], none⟩,
      ⟨some 14, .un .not (.t 13), none⟩,
      ⟨some 15, .mov (.t 14), none⟩,
      ⟨some 16, .mov (.t 0), some (15, true)⟩,
      ⟨some 17, .mov (.t 3), some (15, true)⟩,
      ⟨some 18, .idx (.t 16) (.t 17), some (15, true)⟩,
      ⟨some 19, .bin .neq (.t 18) (.k (.val (.int .u8 45))), some (15, true)⟩,
      ⟨some 20, .mov (.t 19), some (15, true)⟩,
      ⟨some 21, .mov (.t 3), some (20, false)⟩,
      ⟨some 22, .bin .eql (.t 21) (.k (.val (.int .i64 0))), some (20, false)⟩,
      ⟨some 23, .pick (.t 20) (.k (.val (.bool true))) (.t 22), some (15, true)⟩,
      ⟨some 24, .pick (.t 15) (.t 23) (.k (.val (.bool false))), none⟩]) (
    .cond (.t 24) (
     .seq (
     .reg [
       ⟨some 2, .mov (.k (.val (.bool false))), none⟩]) (
     .ret)) (
     .skip))))) (
   .reg [
     ⟨some 25, .bin .add (.t 7) (.k (.val (.int .i64 1))), none⟩,
     ⟨some 7, .mov (.t 25), none⟩])))))))) (
 .seq (
 .reg [
   ⟨some 26, .mov (.t 0), none⟩,
   ⟨some 27, .lens (.t 26), none⟩,
   ⟨some 28, .call 29 [.t 27, .k (.val (.int .i64 1)), .k (.val (.int .i64 24))], none⟩,
   ⟨some 2, .mov (.t 28), none⟩]) (
 .ret)))
theorem ok111 : chkFn Tryz.prog 111 ir111 1 [.t 2] = true := by kernel_rfl

/-- slices.Index[[]string,string] -/
def ir155 : PC :=
 .seq (
 .reg [
   ⟨some 4, .mov (.k (.val (.int .i64 0))), none⟩]) (
 .seq (
 .seq (
 .reg [
   ⟨some 6, .mov (.t 0), none⟩,
   ⟨some 7, .len (.t 6), none⟩,
   ⟨some 8, .mov (.k (.val (.int .i64 0))), none⟩]) (
 .block 0 (
  .loop (.ghost (
   .seq (
   .reg [
     ⟨some 9, .bin .lss (.t 8) (.t 7), none⟩]) (
   .seq (
   .cond (.t 9) (
    .skip) (
    .exit 0)) (
   .seq (
   .block 1 (
    .seq (
    .reg [
      ⟨some 10, .mov (.t 8), none⟩,
      ⟨some 5, .mov (.t 10), none⟩]) (
    .seq (
    .reg [
      ⟨some 11, .mov (.t 1), none⟩,
      ⟨some 12, .mov (.t 0), none⟩,
      ⟨some 13, .mov (.t 5), none⟩,
      ⟨some 14, .iaddr 1 (.t 12) (.t 13), none⟩,
      ⟨some 15, .load false 1 (.t 14), none⟩,
      ⟨some 16, .bin .eql (.t 11) (.t 15), none⟩]) (
    .cond (.t 16) (
     .seq (
     .reg [
       ⟨some 17, .mov (.t 5), none⟩,
       ⟨some 4, .mov (.t 17), none⟩]) (
     .ret)) (
     .skip))))) (
   .reg [
     ⟨some 18, .bin .add (.t 8) (.k (.val (.int .i64 1))), none⟩,
     ⟨some 8, .mov (.t 18), none⟩])))))))) (
 .seq (
 .reg [
   ⟨some 4, .mov (.k (.val (.int .i64 (-1)))), none⟩]) (
 .ret)))
theorem ok155 : chkFn Tryz.prog 155 ir155 2 [.t 4] = true := by kernel_rfl

/-- slices.Contains[[]string,string] -/
def ir118 : PC :=
 .seq (
 .reg [
   ⟨some 4, .mov (.k (.val (.bool false))), none⟩]) (
 .seq (
 .reg [
   ⟨some 5, .mov (.t 0), none⟩,
   ⟨some 6, .mov (.t 1), none⟩,
   ⟨some 7, .call 155 [.t 5, .t 6], none⟩,
   ⟨some 8, .bin .geq (.t 7) (.k (.val (.int .i64 0))), none⟩,
   ⟨some 4, .mov (.t 8), none⟩]) (
 .ret))
theorem ok118 : chkFn Tryz.prog 118 ir118 2 [.t 4] = true := by kernel_rfl

/-- slices.Equal[[]string,string] -/
def ir68 : PC :=
 .seq (
 .reg [
   ⟨some 4, .mov (.k (.val (.bool false))), none⟩]) (
 .seq (
 .seq (
 .reg [
   ⟨some 6, .mov (.t 0), none⟩,
   ⟨some 7, .len (.t 6), none⟩,
   ⟨some 8, .mov (.t 1), none⟩,
   ⟨some 9, .len (.t 8), none⟩,
   ⟨some 10, .bin .neq (.t 7) (.t 9), none⟩]) (
 .cond (.t 10) (
  .seq (
  .reg [
    ⟨some 4, .mov (.k (.val (.bool false))), none⟩]) (
  .ret)) (
  .skip))) (
 .seq (
 .seq (
 .reg [
   ⟨some 11, .mov (.t 0), none⟩,
   ⟨some 12, .len (.t 11), none⟩,
   ⟨some 13, .mov (.k (.val (.int .i64 0))), none⟩]) (
 .block 0 (
  .loop (.ghost (
   .seq (
   .reg [
     ⟨some 14, .bin .lss (.t 13) (.t 12), none⟩]) (
   .seq (
   .cond (.t 14) (
    .skip) (
    .exit 0)) (
   .seq (
   .block 1 (
    .seq (
    .reg [
      ⟨some 15, .mov (.t 13), none⟩,
      ⟨some 5, .mov (.t 15), none⟩]) (
    .seq (
    .draw [
      ⟨some 16, .mov (.t 0), none⟩,
      ⟨some 17, .mov (.t 5), none⟩,
      ⟨some 18, .iaddr 1 (.t 16) (.t 17), none⟩,
      ⟨some 19, .load false 1 (.t 18), none⟩,
      ⟨some 20, .mov (.t 1), none⟩,
      ⟨some 21, .mov (.t 5), none⟩,
      ⟨some 22, .iaddr 1 (.t 20) (.t 21), none⟩,
      ⟨some 23, .load false 1 (.t 22), none⟩] [
      ⟨some 24, .bin .neq (.t 19) (.t 23), none⟩]) (
    .cond (.t 24) (
     .seq (
     .reg [
       ⟨some 4, .mov (.k (.val (.bool false))), none⟩]) (
     .ret)) (
     .skip))))) (
   .reg [
     ⟨some 25, .bin .add (.t 13) (.k (.val (.int .i64 1))), none⟩,
     ⟨some 13, .mov (.t 25), none⟩])))))))) (
 .seq (
 .reg [
   ⟨some 4, .mov (.k (.val (.bool true))), none⟩]) (
 .ret))))
theorem ok68 : chkFn Tryz.prog 68 ir68 2 [.t 4] = true := by kernel_rfl

/-- slices.IndexFunc[[]string,string] -/
def ir149 : PC :=
 .seq (
 .reg [
   ⟨some 4, .mov (.k (.val (.int .i64 0))), none⟩]) (
 .seq (
 .seq (
 .reg [
   ⟨some 6, .mov (.t 0), none⟩,
   ⟨some 7, .len (.t 6), none⟩,
   ⟨some 8, .mov (.k (.val (.int .i64 0))), none⟩]) (
 .block 0 (
  .loop (.ghost (
   .seq (
   .reg [
     ⟨some 9, .bin .lss (.t 8) (.t 7), none⟩]) (
   .seq (
   .cond (.t 9) (
    .skip) (
    .exit 0)) (
   .seq (
   .block 1 (
    .seq (
    .reg [
      ⟨some 10, .mov (.t 8), none⟩,
      ⟨some 5, .mov (.t 10), none⟩]) (
    .seq (
    .reg [
      ⟨some 11, .mov (.t 1), none⟩,
      ⟨some 12, .mov (.t 0), none⟩,
      ⟨some 13, .mov (.t 5), none⟩,
      ⟨some 14, .iaddr 1 (.t 12) (.t 13), none⟩,
      ⟨some 15, .load false 1 (.t 14), none⟩,
      ⟨some 16, .callv (.t 11) [.t 15], none⟩]) (
    .cond (.t 16) (
     .seq (
     .reg [
       ⟨some 17, .mov (.t 5), none⟩,
       ⟨some 4, .mov (.t 17), none⟩]) (
     .ret)) (
     .skip))))) (
   .reg [
     ⟨some 18, .bin .add (.t 8) (.k (.val (.int .i64 1))), none⟩,
     ⟨some 8, .mov (.t 18), none⟩])))))))) (
 .seq (
 .reg [
   ⟨some 4, .mov (.k (.val (.int .i64 (-1)))), none⟩]) (
 .ret)))
theorem ok149 : chkFn Tryz.prog 149 ir149 2 [.t 4] = true := by kernel_rfl

/-- slices.ContainsFunc[[]string,string] -/
def ir112 : PC :=
 .seq (
 .reg [
   ⟨some 4, .mov (.k (.val (.bool false))), none⟩]) (
 .seq (
 .reg [
   ⟨some 5, .mov (.t 0), none⟩,
   ⟨some 6, .mov (.t 1), none⟩,
   ⟨some 7, .call 149 [.t 5, .t 6], none⟩,
   ⟨some 8, .bin .geq (.t 7) (.k (.val (.int .i64 0))), none⟩,
   ⟨some 4, .mov (.t 8), none⟩]) (
 .ret))
theorem ok112 : chkFn Tryz.prog 112 ir112 2 [.t 4] = true := by kernel_rfl

/-- slices.IndexFunc[[]loop.example/g00779/impl.Rule,loop.example/g00779/impl.Rule] -/
def ir115 : PC :=
 .seq (
 .reg [
   ⟨some 4, .mov (.k (.val (.int .i64 0))), none⟩]) (
 .seq (
 .seq (
 .reg [
   ⟨some 6, .mov (.t 0), none⟩,
   ⟨some 7, .len (.t 6), none⟩,
   ⟨some 8, .mov (.k (.val (.int .i64 0))), none⟩]) (
 .block 0 (
  .loop (.ghost (
   .seq (
   .reg [
     ⟨some 9, .bin .lss (.t 8) (.t 7), none⟩]) (
   .seq (
   .cond (.t 9) (
    .skip) (
    .exit 0)) (
   .seq (
   .block 1 (
    .seq (
    .reg [
      ⟨some 10, .mov (.t 8), none⟩,
      ⟨some 5, .mov (.t 10), none⟩]) (
    .seq (
    .reg [
      ⟨some 11, .mov (.t 1), none⟩,
      ⟨some 12, .mov (.t 0), none⟩,
      ⟨some 13, .mov (.t 5), none⟩,
      ⟨some 14, .iaddr 2 (.t 12) (.t 13), none⟩,
      ⟨some 15, .load true 2 (.t 14), none⟩,
      ⟨some 16, .callv (.t 11) [.t 15], none⟩]) (
    .cond (.t 16) (
     .seq (
     .reg [
       ⟨some 17, .mov (.t 5), none⟩,
       ⟨some 4, .mov (.t 17), none⟩]) (
     .ret)) (
     .skip))))) (
   .reg [
     ⟨some 18, .bin .add (.t 8) (.k (.val (.int .i64 1))), none⟩,
     ⟨some 8, .mov (.t 18), none⟩])))))))) (
 .seq (
 .reg [
   ⟨some 4, .mov (.k (.val (.int .i64 (-1)))), none⟩]) (
 .ret)))
theorem ok115 : chkFn Tryz.prog 115 ir115 2 [.t 4] = true := by kernel_rfl

/-- slices.ContainsFunc[[]loop.example/g00779/impl.Rule,loop.example/g00779/impl.Rule] -/
def ir65 : PC :=
 .seq (
 .reg [
   ⟨some 4, .mov (.k (.val (.bool false))), none⟩]) (
 .seq (
 .reg [
   ⟨some 5, .mov (.t 0), none⟩,
   ⟨some 6, .mov (.t 1), none⟩,
   ⟨some 7, .call 115 [.t 5, .t 6], none⟩,
   ⟨some 8, .bin .geq (.t 7) (.k (.val (.int .i64 0))), none⟩,
   ⟨some 4, .mov (.t 8), none⟩]) (
 .ret))
theorem ok65 : chkFn Tryz.prog 65 ir65 2 [.t 4] = true := by kernel_rfl

/-- loop.example/g00779/impl.ruleOK$1 -/
def ir113 : PC :=
 .seq (
 .reg [
   ⟨some 2, .mov (.k (.val (.bool false))), none⟩]) (
 .seq (
 .reg [
   ⟨some 3, .mov (.t 0), none⟩,
   ⟨some 4, .bin .eql (.t 3) (.k (.val (.str ⟨#[]⟩))), none⟩,
   ⟨some 5, .mov (.t 4), none⟩,
   ⟨some 6, .mov (.t 0), some (5, false)⟩,
   ⟨some 7, .call 114 [.t 6, .k (.val (.str ⟨#[32, 9, 59]⟩))], some (5, false)⟩,
   ⟨some 8, .pick (.t 5) (.k (.val (.bool true))) (.t 7), none⟩,
   ⟨some 2, .mov (.t 8), none⟩]) (
 .ret))
theorem ok113 : chkFn Tryz.prog 113 ir113 1 [.t 2] = true := by kernel_rfl

/-- loop.example/g00779/impl.ruleOK -/
def ir64 : PC :=
 .seq (
 .reg [
   ⟨some 1, .box (.t 0), none⟩,
   ⟨some 2, .mov (.k (.val (.bool false))), none⟩]) (
 .seq (
 .reg [
   ⟨some 3, .faddr 0 (.t 1), none⟩,
   ⟨some 4, .load false 1 (.t 3), none⟩,
   ⟨some 5, .call 111 [.t 4], none⟩,
   ⟨some 6, .mov (.t 5), none⟩,
   ⟨some 7, .faddr 1 (.t 1), some (6, true)⟩,
   ⟨some 8, .load false 1 (.t 7), some (6, true)⟩,
   ⟨some 9, .len (.t 8), some (6, true)⟩,
   ⟨some 10, .bin .leq (.t 9) (.k (.val (.int .i64 8))), some (6, true)⟩,
   ⟨some 11, .pick (.t 6) (.t 10) (.k (.val (.bool false))), none⟩,
   ⟨some 12, .mov (.t 11), none⟩,
   ⟨some 13, .faddr 1 (.t 1), some (12, true)⟩,
   ⟨some 14, .load false 1 (.t 13), some (12, true)⟩,
   ⟨some 15, .call 112 [.t 14, .k (.fn 113 [])], some (12, true)⟩,
   ⟨some 16, .un .not (.t 15), some (12, true)⟩,
   ⟨some 17, .pick (.t 12) (.t 16) (.k (.val (.bool false))), none⟩,
   ⟨some 2, .mov (.t 17), none⟩]) (
 .ret))
theorem ok64 : chkFn Tryz.prog 64 ir64 1 [.t 2] = true := by kernel_rfl

/-- (loop.example/g00779/impl.Policy).rule$1 -/
def ir151 : PC :=
 .seq (
 .reg [
   ⟨some 2, .box (.t 0), none⟩,
   ⟨some 3, .mov (.k (.val (.bool false))), none⟩]) (
 .seq (
 .reg [
   ⟨some 4, .faddr 0 (.t 2), none⟩,
   ⟨some 5, .load false 1 (.t 4), none⟩,
   ⟨some 6, .load false 1 (.t 1), none⟩,
   ⟨some 7, .bin .eql (.t 5) (.t 6), none⟩,
   ⟨some 3, .mov (.t 7), none⟩]) (
 .ret))
theorem ok151 : chkFn Tryz.prog 151 ir151 2 [.t 3] = true := by kernel_rfl

/-- (loop.example/g00779/impl.Policy).rule -/
def ir116 : PC :=
 .seq (
 .reg [
   ⟨some 2, .box (.t 0), none⟩,
   ⟨some 3, .box (.t 1), none⟩,
   ⟨some 4, .mov (.k (.emp 1)), none⟩]) (
 .seq (
 .reg [
   ⟨some 6, .faddr 2 (.t 2), none⟩,
   ⟨some 7, .load false 1 (.t 6), none⟩,
   ⟨some 8, .mkfn 151 [.t 3], none⟩,
   ⟨some 9, .call 115 [.t 7, .t 8], none⟩,
   ⟨some 5, .mov (.t 9), none⟩]) (
 .seq (
 .seq (
 .reg [
   ⟨some 10, .mov (.t 5), none⟩,
   ⟨some 11, .bin .lss (.t 10) (.k (.val (.int .i64 0))), none⟩]) (
 .cond (.t 11) (
  .seq (
  .reg [
    ⟨some 4, .mov (.k (.emp 1)), none⟩]) (
  .ret)) (
  .skip))) (
 .seq (
 .reg [
   ⟨some 12, .faddr 2 (.t 2), none⟩,
   ⟨some 13, .load false 1 (.t 12), none⟩,
   ⟨some 14, .mov (.t 5), none⟩,
   ⟨some 15, .iaddr 2 (.t 13) (.t 14), none⟩,
   ⟨some 16, .faddr 1 (.t 15), none⟩,
   ⟨some 17, .load false 1 (.t 16), none⟩,
   ⟨some 4, .mov (.t 17), none⟩]) (
 .ret))))
theorem ok116 : chkFn Tryz.prog 116 ir116 2 [.t 4] = true := by kernel_rfl

def ir67_from4 : PC :=
 .seq (
 .reg [
   ⟨some 58, .load true 3 (.t 1), none⟩,
   ⟨none, .store 3 (.t 2) (.t 58), none⟩]) (
 .ret)
def ir67_from3 : PC :=
 .seq (
 .seq (
 .reg [
   ⟨some 25, .load true 3 (.t 1), none⟩,
   ⟨some 26, .call 116 [.t 25, .k (.val (.str ⟨#[114, 101, 112, 111, 114, 116, 45, 117, 114, 105]⟩))], none⟩,
   ⟨some 27, .len (.t 26), none⟩,
   ⟨some 28, .mov (.k (.val (.int .i64 0))), none⟩]) (
 .block 0 (
  .loop (.ghost (
   .seq (
   .reg [
     ⟨some 29, .bin .lss (.t 28) (.t 27), none⟩]) (
   .seq (
   .cond (.t 29) (
    .skip) (
    .exit 0)) (
   .seq (
   .block 1 (
    .seq (
    .reg [
      ⟨some 30, .iaddr 1 (.t 26) (.t 28), none⟩,
      ⟨some 31, .load false 1 (.t 30), none⟩,
      ⟨some 5, .mov (.t 31), none⟩]) (
    .seq (
    .reg [
      ⟨some 33, .mov (.t 5), none⟩,
      ⟨some 34, .call 117 [.t 33], none⟩,
      ⟨some 32, .mov (.t 34), none⟩,
      ⟨some 35, .ext 0 (.t 32), none⟩,
      ⟨some 36, .ext 1 (.t 32), none⟩,
      ⟨some 6, .mov (.t 35), none⟩,
      ⟨some 7, .mov (.t 36), none⟩]) (
    .seq (
    .reg [
      ⟨some 37, .mov (.t 7), none⟩,
      ⟨some 38, .mov (.t 37), none⟩,
      ⟨some 39, .faddr 1 (.t 1), some (38, true)⟩,
      ⟨some 40, .load false 1 (.t 39), some (38, true)⟩,
      ⟨some 41, .mov (.t 6), some (38, true)⟩,
      ⟨some 42, .call 118 [.t 40, .t 41], some (38, true)⟩,
      ⟨some 43, .un .not (.t 42), some (38, true)⟩,
      ⟨some 44, .pick (.t 38) (.t 43) (.k (.val (.bool false))), none⟩,
      ⟨some 45, .mov (.t 44), none⟩,
      ⟨some 46, .faddr 1 (.t 1), some (45, true)⟩,
      ⟨some 47, .load false 1 (.t 46), some (45, true)⟩,
      ⟨some 48, .len (.t 47), some (45, true)⟩,
      ⟨some 49, .bin .lss (.t 48) (.k (.val (.int .i64 4))), some (45, true)⟩,
      ⟨some 50, .pick (.t 45) (.t 49) (.k (.val (.bool false))), none⟩]) (
    .cond (.t 50) (
     .reg [
       ⟨some 51, .faddr 1 (.t 1), none⟩,
       ⟨some 52, .load false 1 (.t 51), none⟩,
       ⟨some 53, .mov (.t 6), none⟩,
       ⟨some 54, .lit 9 1 [.t 53], none⟩,
       ⟨some 55, .app 9 1 16 (.t 52) (.t 54), none⟩,
       ⟨some 56, .faddr 1 (.t 1), none⟩,
       ⟨none, .store 1 (.t 56) (.t 55), none⟩]) (
     .skip)))))) (
   .reg [
     ⟨some 57, .bin .add (.t 28) (.k (.val (.int .i64 1))), none⟩,
     ⟨some 28, .mov (.t 57), none⟩])))))))) (
 ir67_from4)
/-- (loop.example/g00779/impl.Policy).settled -/
def ir67 : PC :=
 .seq (
 .reg [
   ⟨some 1, .box (.t 0), none⟩,
   ⟨some 2, .alloc [.val (.str ⟨#[]⟩), .emp 1, .emp 2], none⟩]) (
 .seq (
 .reg [
   ⟨some 8, .faddr 0 (.t 1), none⟩,
   ⟨none, .store 1 (.t 8) (.k (.val (.str ⟨#[]⟩))), none⟩,
   ⟨some 9, .faddr 1 (.t 1), none⟩,
   ⟨none, .store 1 (.t 9) (.k (.emp 1)), none⟩]) (
 .seq (
 .seq (
 .reg [
   ⟨some 10, .load true 3 (.t 1), none⟩,
   ⟨some 11, .call 116 [.t 10, .k (.val (.str ⟨#[114, 101, 112, 111, 114, 116, 45, 116, 111]⟩))], none⟩,
   ⟨some 3, .mov (.t 11), none⟩]) (
 .seq (
 .reg [
   ⟨some 12, .mov (.t 3), none⟩,
   ⟨some 13, .len (.t 12), none⟩,
   ⟨some 14, .bin .gtr (.t 13) (.k (.val (.int .i64 0))), none⟩,
   ⟨some 15, .mov (.t 14), none⟩,
   ⟨some 16, .mov (.t 3), some (15, true)⟩,
   ⟨some 17, .iaddr 1 (.t 16) (.k (.val (.int .i64 0))), some (15, true)⟩,
   ⟨some 18, .load false 1 (.t 17), some (15, true)⟩,
   ⟨some 19, .call 80 [.t 18], some (15, true)⟩,
   ⟨some 20, .pick (.t 15) (.t 19) (.k (.val (.bool false))), none⟩]) (
 .cond (.t 20) (
  .reg [
    ⟨some 21, .mov (.t 3), none⟩,
    ⟨some 22, .iaddr 1 (.t 21) (.k (.val (.int .i64 0))), none⟩,
    ⟨some 23, .load false 1 (.t 22), none⟩,
    ⟨some 24, .faddr 0 (.t 1), none⟩,
    ⟨none, .store 1 (.t 24) (.t 23), none⟩]) (
  .skip)))) (
 ir67_from3)))
theorem ok67 : chkFn Tryz.prog 67 ir67 1 [.c 2 true 3] = true := by kernel_rfl

/-- loop.example/g00779/impl.PolicyOK$1 -/
def ir66 : PC :=
 .seq (
 .reg [
   ⟨some 2, .box (.t 0), none⟩,
   ⟨some 3, .mov (.k (.val (.bool false))), none⟩]) (
 .seq (
 .reg [
   ⟨some 4, .faddr 0 (.t 2), none⟩,
   ⟨some 5, .load false 1 (.t 4), none⟩,
   ⟨some 6, .faddr 0 (.t 1), none⟩,
   ⟨some 7, .load false 1 (.t 6), none⟩,
   ⟨some 8, .bin .eql (.t 5) (.t 7), none⟩,
   ⟨some 3, .mov (.t 8), none⟩]) (
 .ret))
theorem ok66 : chkFn Tryz.prog 66 ir66 2 [.t 3] = true := by kernel_rfl

def ir27_from3 : PC :=
 .seq (
 .reg [
   ⟨some 30, .load true 3 (.t 1), none⟩,
   ⟨some 31, .call 67 [.t 30], none⟩,
   ⟨some 5, .alloc [.val (.str ⟨#[]⟩), .emp 1, .emp 2], none⟩,
   ⟨none, .store 3 (.t 5) (.t 31), none⟩]) (
 .seq (
 .reg [
   ⟨some 32, .faddr 0 (.t 5), none⟩,
   ⟨some 33, .load false 1 (.t 32), none⟩,
   ⟨some 34, .faddr 0 (.t 1), none⟩,
   ⟨some 35, .load false 1 (.t 34), none⟩,
   ⟨some 36, .bin .eql (.t 33) (.t 35), none⟩,
   ⟨some 37, .mov (.t 36), none⟩,
   ⟨some 38, .faddr 1 (.t 5), some (37, true)⟩,
   ⟨some 39, .load false 1 (.t 38), some (37, true)⟩,
   ⟨some 40, .faddr 1 (.t 1), some (37, true)⟩,
   ⟨some 41, .load false 1 (.t 40), some (37, true)⟩,
   ⟨some 42, .call 68 [.t 39, .t 41], some (37, true)⟩,
   ⟨some 43, .pick (.t 37) (.t 42) (.k (.val (.bool false))), none⟩,
   ⟨some 2, .mov (.t 43), none⟩]) (
 .ret))
/-- loop.example/g00779/impl.PolicyOK -/
def ir27 : PC :=
 .seq (
 .reg [
   ⟨some 1, .box (.t 0), none⟩,
   ⟨some 2, .mov (.k (.val (.bool false))), none⟩]) (
 .seq (
 .seq (
 .reg [
   ⟨some 6, .faddr 2 (.t 1), none⟩,
   ⟨some 7, .load false 1 (.t 6), none⟩,
   ⟨some 8, .len (.t 7), none⟩,
   ⟨some 9, .bin .gtr (.t 8) (.k (.val (.int .i64 8))), none⟩]) (
 .cond (.t 9) (
  .seq (
  .reg [
    ⟨some 2, .mov (.k (.val (.bool false))), none⟩]) (
  .ret)) (
  .skip))) (
 .seq (
 .seq (
 .reg [
   ⟨some 10, .faddr 2 (.t 1), none⟩,
   ⟨some 11, .load false 1 (.t 10), none⟩,
   ⟨some 12, .len (.t 11), none⟩,
   ⟨some 13, .mov (.k (.val (.int .i64 0))), none⟩]) (
 .block 0 (
  .loop (.ghost (
   .seq (
   .reg [
     ⟨some 14, .bin .lss (.t 13) (.t 12), none⟩]) (
   .seq (
   .cond (.t 14) (
    .skip) (
    .exit 0)) (
   .seq (
   .block 1 (
    .seq (
    .reg [
      ⟨some 15, .mov (.t 13), none⟩,
      ⟨some 16, .iaddr 2 (.t 11) (.t 13), none⟩,
      ⟨some 17, .load true 2 (.t 16), none⟩,
      ⟨some 4, .alloc [.val (.str ⟨#[]⟩), .emp 1], none⟩,
      ⟨some 3, .mov (.t 15), none⟩,
      ⟨none, .store 2 (.t 4) (.t 17), none⟩]) (
    .seq (
    .reg [
      ⟨some 18, .load true 2 (.t 4), none⟩,
      ⟨some 19, .call 64 [.t 18], none⟩,
      ⟨some 20, .un .not (.t 19), none⟩,
      ⟨some 21, .mov (.t 20), none⟩,
      ⟨some 22, .faddr 2 (.t 1), some (21, false)⟩,
      ⟨some 23, .load false 1 (.t 22), some (21, false)⟩,
      ⟨some 24, .mov (.t 3), some (21, false)⟩,
      ⟨some 25, .slc 2 (.t 23) none (some (.t 24)), some (21, false)⟩,
      ⟨some 26, .mkfn 66 [.t 4], some (21, false)⟩,
      ⟨some 27, .call 65 [.t 25, .t 26], some (21, false)⟩,
      ⟨some 28, .pick (.t 21) (.k (.val (.bool true))) (.t 27), none⟩]) (
    .cond (.t 28) (
     .seq (
     .reg [
       ⟨some 2, .mov (.k (.val (.bool false))), none⟩]) (
     .ret)) (
     .skip))))) (
   .reg [
     ⟨some 29, .bin .add (.t 13) (.k (.val (.int .i64 1))), none⟩,
     ⟨some 13, .mov (.t 29), none⟩])))))))) (
 ir27_from3)))
theorem ok27 : chkFn Tryz.prog 27 ir27 1 [.t 2] = true := by kernel_rfl

end Go.Proofs
end

/- Functions of the seat as data. MADE BY PROGRAM (print_ir.py). -/
section
set_option maxRecDepth 100000
namespace Go.Proofs
open Go.PW

/-- loop.example/g00779/laws.szTargetS -/
def ir135 : PC :=
 .seq (
 .reg [
   ⟨some 4, .mov (.k (.val (.int .i64 0))), none⟩]) (
 .seq (
 .reg [
   ⟨some 6, .mov (.t 1), none⟩,
   ⟨some 7, .mov (.t 0), none⟩,
   ⟨some 8, .len (.t 7), none⟩,
   ⟨some 9, .bin .sub (.t 6) (.t 8), none⟩,
   ⟨some 1, .mov (.t 9), none⟩]) (
 .seq (
 .seq (
 .reg [
   ⟨some 10, .mov (.t 1), none⟩,
   ⟨some 11, .bin .lss (.t 10) (.k (.val (.int .i64 0))), none⟩]) (
 .cond (.t 11) (
  .seq (
  .reg [
    ⟨some 4, .mov (.k (.val (.int .i64 (-1)))), none⟩]) (
  .ret)) (
  .skip))) (
 .seq (
 .seq (
 .reg [
   ⟨some 5, .mov (.k (.val (.int .i64 0))), none⟩]) (
 .block 0 (
  .loop (.ghost (
   .seq (
   .seq (
   .reg [
     ⟨some 12, .mov (.t 5), none⟩,
     ⟨some 13, .mov (.t 0), none⟩,
     ⟨some 14, .len (.t 13), none⟩,
     ⟨some 15, .bin .lss (.t 12) (.t 14), none⟩]) (
   .cond (.t 15) (
    .skip) (
    .exit 0))) (
   .seq (
   .block 1 (
    .seq (
    .reg [
      ⟨some 18, .mov (.t 0), none⟩,
      ⟨some 19, .mov (.t 5), none⟩,
      ⟨some 20, .iaddr 3 (.t 18) (.t 19), none⟩,
      ⟨some 21, .load true 3 (.t 20), none⟩,
      ⟨some 22, .mov (.t 1), none⟩,
      ⟨some 23, .call 164 [.t 21, .t 22], none⟩,
      ⟨some 1, .mov (.t 23), none⟩]) (
    .seq (
    .reg [
      ⟨some 24, .mov (.t 1), none⟩,
      ⟨some 25, .bin .lss (.t 24) (.k (.val (.int .i64 0))), none⟩]) (
    .cond (.t 25) (
     .seq (
     .reg [
       ⟨some 4, .mov (.k (.val (.int .i64 (-1)))), none⟩]) (
     .ret)) (
     .skip))))) (
   .reg [
     ⟨some 16, .mov (.t 5), none⟩,
     ⟨some 17, .bin .add (.t 16) (.k (.val (.int .i64 1))), none⟩,
     ⟨some 5, .mov (.t 17), none⟩]))))))) (
 .seq (
 .reg [
   ⟨some 26, .mov (.t 1), none⟩,
   ⟨some 4, .mov (.t 26), none⟩]) (
 .ret)))))
theorem ok135 : chkFn Tryz.prog 135 ir135 2 [.t 4] = true := by kernel_rfl

/-- loop.example/g00779/laws.toTargetS -/
def ir145 : PC :=
 .seq (
 .reg [
   ⟨some 2, .mov (.k (.emp 3)), none⟩]) (
 .seq (
 .reg [
   ⟨some 5, .mov (.t 0), none⟩,
   ⟨some 6, .len (.t 5), none⟩,
   ⟨some 7, .mks 88 3 32 true [.val (.str ⟨#[]⟩), .val (.int .i64 0), .val (.int .i64 0)] (.t 6), none⟩,
   ⟨some 3, .mov (.t 7), none⟩]) (
 .seq (
 .seq (
 .reg [
   ⟨some 4, .mov (.k (.val (.int .i64 0))), none⟩]) (
 .block 0 (
  .loop (.ghost (
   .seq (
   .seq (
   .reg [
     ⟨some 8, .mov (.t 4), none⟩,
     ⟨some 9, .mov (.t 0), none⟩,
     ⟨some 10, .len (.t 9), none⟩,
     ⟨some 11, .bin .lss (.t 8) (.t 10), none⟩]) (
   .cond (.t 11) (
    .skip) (
    .exit 0))) (
   .seq (
   .block 1 (
    .reg [
      ⟨some 14, .mov (.t 3), none⟩,
      ⟨some 15, .mov (.t 4), none⟩,
      ⟨some 16, .mov (.t 0), none⟩,
      ⟨some 17, .mov (.t 4), none⟩,
      ⟨some 18, .iaddr 3 (.t 16) (.t 17), none⟩,
      ⟨some 19, .load true 3 (.t 18), none⟩,
      ⟨some 20, .call 166 [.t 19], none⟩,
      ⟨some 21, .iaddr 3 (.t 14) (.t 15), none⟩,
      ⟨none, .store 3 (.t 21) (.t 20), none⟩])) (
   .reg [
     ⟨some 12, .mov (.t 4), none⟩,
     ⟨some 13, .bin .add (.t 12) (.k (.val (.int .i64 1))), none⟩,
     ⟨some 4, .mov (.t 13), none⟩]))))))) (
 .seq (
 .reg [
   ⟨some 22, .mov (.t 3), none⟩,
   ⟨some 2, .mov (.t 22), none⟩]) (
 .ret))))
theorem ok145 : chkFn Tryz.prog 145 ir145 1 [.t 2] = true := by kernel_rfl

/-- loop.example/g00779/laws.eqTargetS -/
def ir158 : PC :=
 .seq (
 .reg [
   ⟨some 4, .mov (.k (.val (.bool false))), none⟩]) (
 .seq (
 .seq (
 .reg [
   ⟨some 6, .mov (.t 0), none⟩,
   ⟨some 7, .len (.t 6), none⟩,
   ⟨some 8, .mov (.t 1), none⟩,
   ⟨some 9, .len (.t 8), none⟩,
   ⟨some 10, .bin .neq (.t 7) (.t 9), none⟩]) (
 .cond (.t 10) (
  .seq (
  .reg [
    ⟨some 4, .mov (.k (.val (.bool false))), none⟩]) (
  .ret)) (
  .skip))) (
 .seq (
 .seq (
 .reg [
   ⟨some 5, .mov (.k (.val (.int .i64 0))), none⟩]) (
 .block 0 (
  .loop (.ghost (
   .seq (
   .seq (
   .reg [
     ⟨some 11, .mov (.t 5), none⟩,
     ⟨some 12, .mov (.t 0), none⟩,
     ⟨some 13, .len (.t 12), none⟩,
     ⟨some 14, .bin .lss (.t 11) (.t 13), none⟩]) (
   .cond (.t 14) (
    .skip) (
    .exit 0))) (
   .seq (
   .block 1 (
    .seq (
    .draw [
      ⟨some 17, .mov (.t 0), none⟩,
      ⟨some 18, .mov (.t 5), none⟩,
      ⟨some 19, .iaddr 3 (.t 17) (.t 18), none⟩,
      ⟨some 20, .load true 3 (.t 19), none⟩,
      ⟨some 21, .mov (.t 1), none⟩,
      ⟨some 22, .mov (.t 5), none⟩,
      ⟨some 23, .iaddr 3 (.t 21) (.t 22), none⟩,
      ⟨some 24, .load true 3 (.t 23), none⟩] [
      ⟨some 25, .call 175 [.t 20, .t 24], none⟩,
      ⟨some 26, .un .not (.t 25), none⟩]) (
    .cond (.t 26) (
     .seq (
     .reg [
       ⟨some 4, .mov (.k (.val (.bool false))), none⟩]) (
     .ret)) (
     .skip)))) (
   .reg [
     ⟨some 15, .mov (.t 5), none⟩,
     ⟨some 16, .bin .add (.t 15) (.k (.val (.int .i64 1))), none⟩,
     ⟨some 5, .mov (.t 16), none⟩]))))))) (
 .seq (
 .reg [
   ⟨some 4, .mov (.k (.val (.bool true))), none⟩]) (
 .ret))))
theorem ok158 : chkFn Tryz.prog 158 ir158 2 [.t 4] = true := by kernel_rfl

/-- loop.example/g00779/laws.szGroup -/
def ir93 : PC :=
 .seq (
 .reg [
   ⟨some 2, .box (.t 0), none⟩,
   ⟨some 4, .mov (.k (.val (.int .i64 0))), none⟩]) (
 .seq (
 .reg [
   ⟨some 5, .mov (.t 1), none⟩,
   ⟨some 6, .faddr 0 (.t 2), none⟩,
   ⟨some 7, .load false 1 (.t 6), none⟩,
   ⟨some 8, .lens (.t 7), none⟩,
   ⟨some 9, .bin .sub (.t 5) (.t 8), none⟩,
   ⟨some 1, .mov (.t 9), none⟩]) (
 .seq (
 .seq (
 .reg [
   ⟨some 10, .mov (.t 1), none⟩,
   ⟨some 11, .bin .lss (.t 10) (.k (.val (.int .i64 0))), none⟩]) (
 .cond (.t 11) (
  .seq (
  .reg [
    ⟨some 4, .mov (.k (.val (.int .i64 (-1)))), none⟩]) (
  .ret)) (
  .skip))) (
 .seq (
 .reg [
   ⟨some 12, .faddr 2 (.t 2), none⟩,
   ⟨some 13, .load false 1 (.t 12), none⟩,
   ⟨some 14, .mov (.t 1), none⟩,
   ⟨some 15, .call 135 [.t 13, .t 14], none⟩,
   ⟨some 1, .mov (.t 15), none⟩]) (
 .seq (
 .seq (
 .reg [
   ⟨some 16, .mov (.t 1), none⟩,
   ⟨some 17, .bin .lss (.t 16) (.k (.val (.int .i64 0))), none⟩]) (
 .cond (.t 17) (
  .seq (
  .reg [
    ⟨some 4, .mov (.k (.val (.int .i64 (-1)))), none⟩]) (
  .ret)) (
  .skip))) (
 .seq (
 .reg [
   ⟨some 18, .mov (.t 1), none⟩,
   ⟨some 4, .mov (.t 18), none⟩]) (
 .ret))))))
theorem ok93 : chkFn Tryz.prog 93 ir93 2 [.t 4] = true := by kernel_rfl

/-- loop.example/g00779/laws.toGroup -/
def ir106 : PC :=
 .seq (
 .reg [
   ⟨some 1, .box (.t 0), none⟩,
   ⟨some 2, .alloc [.val (.str ⟨#[]⟩), .val (.int .i64 0), .emp 3], none⟩]) (
 .seq (
 .reg [
   ⟨some 3, .alloc [.val (.str ⟨#[]⟩), .val (.int .i64 0), .emp 3], none⟩]) (
 .seq (
 .reg [
   ⟨some 4, .faddr 0 (.t 1), none⟩,
   ⟨some 5, .load false 1 (.t 4), none⟩,
   ⟨some 6, .faddr 0 (.t 3), none⟩,
   ⟨none, .store 1 (.t 6) (.t 5), none⟩]) (
 .seq (
 .reg [
   ⟨some 7, .faddr 1 (.t 1), none⟩,
   ⟨some 8, .load false 1 (.t 7), none⟩,
   ⟨some 9, .faddr 1 (.t 3), none⟩,
   ⟨none, .store 1 (.t 9) (.t 8), none⟩]) (
 .seq (
 .reg [
   ⟨some 10, .faddr 2 (.t 1), none⟩,
   ⟨some 11, .load false 1 (.t 10), none⟩,
   ⟨some 12, .call 145 [.t 11], none⟩,
   ⟨some 13, .faddr 2 (.t 3), none⟩,
   ⟨none, .store 1 (.t 13) (.t 12), none⟩]) (
 .seq (
 .reg [
   ⟨some 14, .load true 3 (.t 3), none⟩,
   ⟨none, .store 3 (.t 2) (.t 14), none⟩]) (
 .ret))))))
theorem ok106 : chkFn Tryz.prog 106 ir106 1 [.c 2 true 3] = true := by kernel_rfl

/-- loop.example/g00779/laws.eqGroup -/
def ir127 : PC :=
 .seq (
 .reg [
   ⟨some 2, .box (.t 0), none⟩,
   ⟨some 3, .box (.t 1), none⟩,
   ⟨some 4, .mov (.k (.val (.bool false))), none⟩]) (
 .seq (
 .seq (
 .reg [
   ⟨some 5, .faddr 0 (.t 2), none⟩,
   ⟨some 6, .load false 1 (.t 5), none⟩,
   ⟨some 7, .faddr 0 (.t 3), none⟩,
   ⟨some 8, .load false 1 (.t 7), none⟩,
   ⟨some 9, .bin .neq (.t 6) (.t 8), none⟩]) (
 .cond (.t 9) (
  .seq (
  .reg [
    ⟨some 4, .mov (.k (.val (.bool false))), none⟩]) (
  .ret)) (
  .skip))) (
 .seq (
 .seq (
 .reg [
   ⟨some 10, .faddr 1 (.t 2), none⟩,
   ⟨some 11, .load false 1 (.t 10), none⟩,
   ⟨some 12, .faddr 1 (.t 3), none⟩,
   ⟨some 13, .load false 1 (.t 12), none⟩,
   ⟨some 14, .bin .neq (.t 11) (.t 13), none⟩]) (
 .cond (.t 14) (
  .seq (
  .reg [
    ⟨some 4, .mov (.k (.val (.bool false))), none⟩]) (
  .ret)) (
  .skip))) (
 .seq (
 .seq (
 .reg [
   ⟨some 15, .faddr 2 (.t 2), none⟩,
   ⟨some 16, .load false 1 (.t 15), none⟩,
   ⟨some 17, .faddr 2 (.t 3), none⟩,
   ⟨some 18, .load false 1 (.t 17), none⟩,
   ⟨some 19, .call 158 [.t 16, .t 18], none⟩,
   ⟨some 20, .un .not (.t 19), none⟩]) (
 .cond (.t 20) (
  .seq (
  .reg [
    ⟨some 4, .mov (.k (.val (.bool false))), none⟩]) (
  .ret)) (
  .skip))) (
 .seq (
 .reg [
   ⟨some 4, .mov (.k (.val (.bool true))), none⟩]) (
 .ret)))))
theorem ok127 : chkFn Tryz.prog 127 ir127 2 [.t 4] = true := by kernel_rfl

end Go.Proofs
end
