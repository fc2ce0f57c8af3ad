/- Bb: merged out of IRv, IRe, IRf, IRg, IRj. -/
import Derived.Test.YtnopddgnkefljaaGreatDoorPWv
import Derived.Test.YtnopddgnkefljaaGreatDoorChecked
import Derived.KernelRfl

/- Functions of the seat as data. MADE BY PROGRAM (print_ir.py). -/
section
set_option maxRecDepth 100000
namespace Go.Proofs
open Go.PW Go.PW.I

/-- laws.szTarget -/
def ir97 : PC := .seq (.reg [o 2 (.box (.t 0)), o 4 (.mov (i 0))]) (.seq (.reg [m 5 1, o 6 (.faddr 0 (.t 2)), l 7 6, o 8 (.lens (.t 7)), o 9 (.bin .sub (.t 5) (.t 8)), m 1 9]) (.seq
 (.seq (.reg [m 10 1, o 11 (.bin .lss (.t 10) (i 0))]) (.cond (.t 11) (.seq (.reg [o 4 (.mov (i (-1)))]) (.ret)) (.skip))) (.seq (.reg [m 12 1, m 4 12]) (.ret))))
theorem ok97 : chkFn Tryz.prog 97 ir97 2 [.t 4] = true := by kernel_rfl
/-- laws.toTarget -/
def ir101 : PC := .seq (.reg [o 1 (.box (.t 0)), o 2 (.alloc [.val (.str ⟨#[]⟩), .val (.int .i64 0), .val (.int .i64 0)])]) (.seq (.reg [o 3 (.alloc [.val (.str ⟨#[]⟩), .val (.int
 .i64 0), .val (.int .i64 0)])]) (.seq (.reg [o 4 (.faddr 0 (.t 1)), l 5 4, o 6 (.faddr 0 (.t 3)), n (.store 1 (.t 6) (.t 5))]) (.seq (.reg [o 7 (.faddr 1 (.t 1)), l 8 7, o 9
 (.faddr 1 (.t 3)), n (.store 1 (.t 9) (.t 8))]) (.seq (.reg [o 10 (.faddr 2 (.t 1)), l 11 10, o 12 (.faddr 2 (.t 3)), n (.store 1 (.t 12) (.t 11))]) (.seq (.reg [o 13 (.load true 3
 (.t 3)), n (.store 3 (.t 2) (.t 13))]) (.ret))))))
theorem ok101 : chkFn Tryz.prog 101 ir101 1 [.c 2 true 3] = true := by kernel_rfl
/-- laws.eqTarget -/
def ir104 : PC := .seq (.reg [o 2 (.box (.t 0)), o 3 (.box (.t 1)), o 4 (.mov F)]) (.seq (.seq (.reg [o 5 (.faddr 0 (.t 2)), l 6 5, o 7 (.faddr 0 (.t 3)), l 8 7, o 9 (.bin .neq (.t
 6) (.t 8))]) (.cond (.t 9) (.seq (.reg [o 4 (.mov F)]) (.ret)) (.skip))) (.seq (.seq (.reg [o 10 (.faddr 1 (.t 2)), l 11 10, o 12 (.faddr 1 (.t 3)), l 13 12, o 14 (.bin .neq (.t
 11) (.t 13))]) (.cond (.t 14) (.seq (.reg [o 4 (.mov F)]) (.ret)) (.skip))) (.seq (.seq (.reg [o 15 (.faddr 2 (.t 2)), l 16 15, o 17 (.faddr 2 (.t 3)), l 18 17, o 19 (.bin .neq (.t
 16) (.t 18))]) (.cond (.t 19) (.seq (.reg [o 4 (.mov F)]) (.ret)) (.skip))) (.seq (.reg [o 4 (.mov T)]) (.ret)))))
theorem ok104 : chkFn Tryz.prog 104 ir104 2 [.t 4] = true := by kernel_rfl
end Go.Proofs
end

/- Functions of the seat as data. MADE BY PROGRAM (print_ir.py). -/
section
set_option maxRecDepth 100000
namespace Go.Proofs
open Go.PW Go.PW.I

end Go.Proofs
end

/- Functions of the seat as data. MADE BY PROGRAM (print_ir.py). -/
section
set_option maxRecDepth 100000
namespace Go.Proofs
open Go.PW Go.PW.I

end Go.Proofs
end

/- Functions of the seat as data. MADE BY PROGRAM (print_ir.py). -/
section
set_option maxRecDepth 100000
namespace Go.Proofs
open Go.PW Go.PW.I

end Go.Proofs
end

/- Functions of the seat as data. MADE BY PROGRAM (print_ir.py). -/
section
set_option maxRecDepth 100000
namespace Go.Proofs
open Go.PW Go.PW.I

/-- laws.szTargetS -/
def ir54 : PC := .seq (.reg [o 4 (.mov (i 0))]) (.seq (.reg [m 6 1, m 7 0, o 8 (.len (.t 7)), o 9 (.bin .sub (.t 6) (.t 8)), m 1 9]) (.seq (.seq (.reg [m 10 1, o 11 (.bin .lss (.t
 10) (i 0))]) (.cond (.t 11) (.seq (.reg [o 4 (.mov (i (-1)))]) (.ret)) (.skip))) (.seq (.seq (.reg [o 5 (.mov (i 0))]) (.block 0 (.loop (.ghost (.seq (.seq (.reg [m 12 5, m 13 0, o
 14 (.len (.t 13)), o 15 (.bin .lss (.t 12) (.t 14))]) (.cond (.t 15) (.skip) (.exit 0))) (.seq (.block 1 (.seq (.reg [m 18 0, m 19 5, o 20 (.iaddr 3 (.t 18) (.t 19)), o 21 (.load
 true 3 (.t 20)), m 22 1, o 23 (.call 97 [.t 21, .t 22]), m 1 23]) (.seq (.reg [m 24 1, o 25 (.bin .lss (.t 24) (i 0))]) (.cond (.t 25) (.seq (.reg [o 4 (.mov (i (-1)))]) (.ret))
 (.skip))))) (.reg [m 16 5, o 17 (.bin .add (.t 16) (i 1)), m 5 17]))))))) (.seq (.reg [m 26 1, m 4 26]) (.ret)))))
theorem ok54 : chkFn Tryz.prog 54 ir54 2 [.t 4] = true := by kernel_rfl
/-- laws.toTargetS -/
def ir57 : PC := .seq (.reg [o 2 (.mov (.k (.emp 3)))]) (.seq (.reg [m 5 0, o 6 (.len (.t 5)), o 7 (.mks 76 3 32 true [.val (.str ⟨#[]⟩), .val (.int .i64 0), .val (.int .i64 0)] (.t
 6)), m 3 7]) (.seq (.seq (.reg [o 4 (.mov (i 0))]) (.block 0 (.loop (.ghost (.seq (.seq (.reg [m 8 4, m 9 0, o 10 (.len (.t 9)), o 11 (.bin .lss (.t 8) (.t 10))]) (.cond (.t 11)
 (.skip) (.exit 0))) (.seq (.block 1 (.reg [m 14 3, m 15 4, m 16 0, m 17 4, o 18 (.iaddr 3 (.t 16) (.t 17)), o 19 (.load true 3 (.t 18)), o 20 (.call 101 [.t 19]), o 21 (.iaddr 3
 (.t 14) (.t 15)), n (.store 3 (.t 21) (.t 20))])) (.reg [m 12 4, o 13 (.bin .add (.t 12) (i 1)), m 4 13]))))))) (.seq (.reg [m 22 3, m 2 22]) (.ret))))
theorem ok57 : chkFn Tryz.prog 57 ir57 1 [.t 2] = true := by kernel_rfl
/-- laws.eqTargetS -/
def ir61 : PC := .seq (.reg [o 4 (.mov F)]) (.seq (.seq (.reg [m 6 0, o 7 (.len (.t 6)), m 8 1, o 9 (.len (.t 8)), o 10 (.bin .neq (.t 7) (.t 9))]) (.cond (.t 10) (.seq (.reg [o 4
 (.mov F)]) (.ret)) (.skip))) (.seq (.seq (.reg [o 5 (.mov (i 0))]) (.block 0 (.loop (.ghost (.seq (.seq (.reg [m 11 5, m 12 0, o 13 (.len (.t 12)), o 14 (.bin .lss (.t 11) (.t
 13))]) (.cond (.t 14) (.skip) (.exit 0))) (.seq (.block 1 (.seq (.draw [m 17 0, m 18 5, o 19 (.iaddr 3 (.t 17) (.t 18)), o 20 (.load true 3 (.t 19)), m 21 1, m 22 5, o 23 (.iaddr 3
 (.t 21) (.t 22)), o 24 (.load true 3 (.t 23))] [o 25 (.call 104 [.t 20, .t 24]), o 26 (.un .not (.t 25))]) (.cond (.t 26) (.seq (.reg [o 4 (.mov F)]) (.ret)) (.skip)))) (.reg [m 15
 5, o 16 (.bin .add (.t 15) (i 1)), m 5 16]))))))) (.seq (.reg [o 4 (.mov T)]) (.ret))))
theorem ok61 : chkFn Tryz.prog 61 ir61 2 [.t 4] = true := by kernel_rfl
/-- laws.szGroup -/
def ir23 : PC := .seq (.reg [o 2 (.box (.t 0)), o 4 (.mov (i 0))]) (.seq (.reg [m 5 1, o 6 (.faddr 0 (.t 2)), l 7 6, o 8 (.lens (.t 7)), o 9 (.bin .sub (.t 5) (.t 8)), m 1 9]) (.seq
 (.seq (.reg [m 10 1, o 11 (.bin .lss (.t 10) (i 0))]) (.cond (.t 11) (.seq (.reg [o 4 (.mov (i (-1)))]) (.ret)) (.skip))) (.seq (.reg [o 12 (.faddr 2 (.t 2)), l 13 12, m 14 1, o 15
 (.call 54 [.t 13, .t 14]), m 1 15]) (.seq (.seq (.reg [m 16 1, o 17 (.bin .lss (.t 16) (i 0))]) (.cond (.t 17) (.seq (.reg [o 4 (.mov (i (-1)))]) (.ret)) (.skip))) (.seq (.reg [m
 18 1, m 4 18]) (.ret))))))
theorem ok23 : chkFn Tryz.prog 23 ir23 2 [.t 4] = true := by kernel_rfl
/-- laws.toGroup -/
def ir25 : PC := .seq (.reg [o 1 (.box (.t 0)), o 2 (.alloc [.val (.str ⟨#[]⟩), .val (.int .i64 0), .emp 3])]) (.seq (.reg [o 3 (.alloc [.val (.str ⟨#[]⟩), .val (.int .i64 0), .emp
 3])]) (.seq (.reg [o 4 (.faddr 0 (.t 1)), l 5 4, o 6 (.faddr 0 (.t 3)), n (.store 1 (.t 6) (.t 5))]) (.seq (.reg [o 7 (.faddr 1 (.t 1)), l 8 7, o 9 (.faddr 1 (.t 3)), n (.store 1
 (.t 9) (.t 8))]) (.seq (.reg [o 10 (.faddr 2 (.t 1)), l 11 10, o 12 (.call 57 [.t 11]), o 13 (.faddr 2 (.t 3)), n (.store 1 (.t 13) (.t 12))]) (.seq (.reg [o 14 (.load true 3 (.t
 3)), n (.store 3 (.t 2) (.t 14))]) (.ret))))))
theorem ok25 : chkFn Tryz.prog 25 ir25 1 [.c 2 true 3] = true := by kernel_rfl
/-- laws.eqGroup -/
def ir27 : PC := .seq (.reg [o 2 (.box (.t 0)), o 3 (.box (.t 1)), o 4 (.mov F)]) (.seq (.seq (.reg [o 5 (.faddr 0 (.t 2)), l 6 5, o 7 (.faddr 0 (.t 3)), l 8 7, o 9 (.bin .neq (.t
 6) (.t 8))]) (.cond (.t 9) (.seq (.reg [o 4 (.mov F)]) (.ret)) (.skip))) (.seq (.seq (.reg [o 10 (.faddr 1 (.t 2)), l 11 10, o 12 (.faddr 1 (.t 3)), l 13 12, o 14 (.bin .neq (.t
 11) (.t 13))]) (.cond (.t 14) (.seq (.reg [o 4 (.mov F)]) (.ret)) (.skip))) (.seq (.seq (.reg [o 15 (.faddr 2 (.t 2)), l 16 15, o 17 (.faddr 2 (.t 3)), l 18 17, o 19 (.call 61 [.t
 16, .t 18]), o 20 (.un .not (.t 19))]) (.cond (.t 20) (.seq (.reg [o 4 (.mov F)]) (.ret)) (.skip))) (.seq (.reg [o 4 (.mov T)]) (.ret)))))
theorem ok27 : chkFn Tryz.prog 27 ir27 2 [.t 4] = true := by kernel_rfl
end Go.Proofs
end
