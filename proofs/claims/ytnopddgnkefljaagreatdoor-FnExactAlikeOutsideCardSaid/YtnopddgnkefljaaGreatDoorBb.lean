/- Bb: merged out of IRe, IRg. -/
import Derived.Test.YtnopddgnkefljaaGreatDoorPWv
import Derived.Test.YtnopddgnkefljaaGreatDoorChecked
import Derived.KernelRfl

/- Functions of the seat as data. MADE BY PROGRAM (print_ir.py). -/
section
set_option maxRecDepth 100000
namespace Go.Proofs
open Go.PW Go.PW.I

/-- spec.l04Name -/
def ir70 : PC := .seq (.reg [o 2 (.mov F)]) (.seq (.seq (.reg [m 4 0, o 5 (.lens (.t 4)), o 6 (.call 71 [.t 5, .k (.val (.int .i64 1)), .k (.val (.int .i64 24))]), o 7 (.un .not (.t
 6))]) (.cond (.t 7) (.seq (.reg [o 2 (.mov F)]) (.ret)) (.skip))) (.seq (.seq (.reg [o 3 (.mov (i 0))]) (.block 0 (.loop (.ghost (.seq (.seq (.reg [m 8 3, m 9 0, o 10 (.lens (.t
 9)), o 11 (.bin .lss (.t 8) (.t 10))]) (.cond (.t 11) (.skip) (.exit 0))) (.seq (.block 1 (.seq (.reg [m 14 0, m 15 3, o 16 (.idx (.t 14) (.t 15)), o 17 (.bin .lss (.t 16) (.k
 (.val (.int .u8 97)))), m 18 17, g 19 18 false (.mov (.t 0)), g 20 18 false (.mov (.t 3)), g 21 18 false (.idx (.t 19) (.t 20)), g 22 18 false (.bin .gtr (.t 21) (.k (.val (.int
 .u8 122)))), o 23 (.pick (.t 18) T (.t 22)), m 24 23, g 25 24 true (.mov (.t 0)), g 26 24 true (.mov (.t 3)), g 27 24 true (.idx (.t 25) (.t 26)), g 28 24 true (.bin .neq (.t 27)
 (.k (.val (.int .u8 45)))), g 29 24 true (.mov (.t 28)), g 30 29 false (.mov (.t 3)), g 31 29 false (.bin .eql (.t 30) (i 0)), g 32 24 true (.pick (.t 29) T (.t 31)), o 33 (.pick
 (.t 24) (.t 32) F)]) (.cond (.t 33) (.seq (.reg [o 2 (.mov F)]) (.ret)) (.skip)))) (.reg [m 12 3, o 13 (.bin .add (.t 12) (i 1)), m 3 13]))))))) (.seq (.reg [o 2 (.mov T)])
 (.ret))))
theorem ok70 : chkFn Tryz.prog 70 ir70 1 [.t 2] = true := by kernel_rfl
/-- spec.l01Has -/
def ir116 : PC := .seq (.reg [o 4 (.mov F)]) (.seq (.seq (.reg [o 5 (.mov (i 0))]) (.block 0 (.loop (.ghost (.seq (.seq (.reg [m 6 5, m 7 0, o 8 (.len (.t 7)), o 9 (.bin .lss (.t 6)
 (.t 8))]) (.cond (.t 9) (.skip) (.exit 0))) (.seq (.block 1 (.seq (.reg [m 12 0, m 13 5, o 14 (.iaddr 1 (.t 12) (.t 13)), l 15 14, m 16 1, o 17 (.bin .eql (.t 15) (.t 16))]) (.cond
 (.t 17) (.seq (.reg [o 4 (.mov T)]) (.ret)) (.skip)))) (.reg [m 10 5, o 11 (.bin .add (.t 10) (i 1)), m 5 11]))))))) (.seq (.reg [o 4 (.mov F)]) (.ret)))
theorem ok116 : chkFn Tryz.prog 116 ir116 2 [.t 4] = true := by kernel_rfl
end Go.Proofs
end

/- Functions of the seat as data. MADE BY PROGRAM (print_ir.py). -/
section
set_option maxRecDepth 100000
namespace Go.Proofs
open Go.PW Go.PW.I

/-- impl.isRule -/
def ir79 : PC := .seq (.reg [o 2 (.mov F)]) (.seq (.seq (.reg [m 4 0, o 5 (.lens (.t 4)), o 6 (.mn (.t 5) (i 25)), o 7 (.mov (i 0))]) (.block 0 (.loop (.ghost (.seq (.reg [o 8 (.bin
 .lss (.t 7) (.t 6))]) (.seq (.cond (.t 8) (.skip) (.exit 0)) (.seq (.block 1 (.seq (.reg [m 9 7, m 3 9]) (.seq (.reg [m 10 0, m 11 3, o 12 (.idx (.t 10) (.t 11)), o 13 (.call 121
 [.t 12]), o 14 (.un .not (.t 13)), m 15 14, g 16 15 true (.mov (.t 0)), g 17 15 true (.mov (.t 3)), g 18 15 true (.idx (.t 16) (.t 17)), g 19 15 true (.bin .neq (.t 18) (.k (.val
 (.int .u8 45)))), g 20 15 true (.mov (.t 19)), g 21 20 false (.mov (.t 3)), g 22 20 false (.bin .eql (.t 21) (i 0)), g 23 15 true (.pick (.t 20) T (.t 22)), o 24 (.pick (.t 15) (.t
 23) F)]) (.cond (.t 24) (.seq (.reg [o 2 (.mov F)]) (.ret)) (.skip))))) (.reg [o 25 (.bin .add (.t 7) (i 1)), m 7 25])))))))) (.seq (.reg [m 26 0, o 27 (.lens (.t 26)), o 28 (.call
 80 [.t 27, .k (.val (.int .i64 1)), .k (.val (.int .i64 24))]), m 2 28]) (.ret)))
theorem ok79 : chkFn Tryz.prog 79 ir79 1 [.t 2] = true := by kernel_rfl
/-- slices.Equal[[]string,string] -/
def ir84 : PC := .seq (.reg [o 4 (.mov F)]) (.seq (.seq (.reg [m 6 0, o 7 (.len (.t 6)), m 8 1, o 9 (.len (.t 8)), o 10 (.bin .neq (.t 7) (.t 9))]) (.cond (.t 10) (.seq (.reg [o 4
 (.mov F)]) (.ret)) (.skip))) (.seq (.seq (.reg [m 11 0, o 12 (.len (.t 11)), o 13 (.mov (i 0))]) (.block 0 (.loop (.ghost (.seq (.reg [o 14 (.bin .lss (.t 13) (.t 12))]) (.seq
 (.cond (.t 14) (.skip) (.exit 0)) (.seq (.block 1 (.seq (.reg [m 15 13, m 5 15]) (.seq (.draw [m 16 0, m 17 5, o 18 (.iaddr 1 (.t 16) (.t 17)), l 19 18, m 20 1, m 21 5, o 22
 (.iaddr 1 (.t 20) (.t 21)), l 23 22] [o 24 (.bin .neq (.t 19) (.t 23))]) (.cond (.t 24) (.seq (.reg [o 4 (.mov F)]) (.ret)) (.skip))))) (.reg [o 25 (.bin .add (.t 13) (i 1)), m 13
 25])))))))) (.seq (.reg [o 4 (.mov T)]) (.ret))))
theorem ok84 : chkFn Tryz.prog 84 ir84 2 [.t 4] = true := by kernel_rfl
end Go.Proofs
end
