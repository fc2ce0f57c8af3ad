/- Ep: merged out of IRoo, KJu. -/
import Derived.Test.YtgdapgcjmfeocaaGreatDoorPWv
import Derived.Test.YtgdapgcjmfeocaaGreatDoorChecked
import Derived.KernelRfl
import Derived.Test.YtgdapgcjmfeocaaGreatDoorEh
import Derived.Test.YtgdapgcjmfeocaaGreatDoorAc
section
set_option maxRecDepth 100000
namespace Go.Proofs
open Go.PW Go.PW.I
def ir10 : PC := .seq (.reg [o 2 (.box (.t 0)), o 4 (.mov (i 0)), o 5 (.mov (i 0))]) (.seq (.seq (.reg [o 7 (.load true 8 (.t 2)), o 8 (.call 35 [.t 7]), o 9 (.un .not (.t 8))])
 (.cond (.t 9) (.seq (.reg [o 4 (.mov (i 0)), o 5 (.mov (i 1))]) (.ret)) (.skip))) (.seq (.reg [o 10 (.load true 8 (.t 2)), m 11 1, o 12 (.call 36 [.t 10, .t 11]), m 6 12]) (.seq
 (.seq (.reg [m 13 6, o 14 (.bin .eql (.t 13) (i 0))]) (.cond (.t 14) (.seq (.reg [o 4 (.mov (i 0)), o 5 (.mov (i 5))]) (.ret)) (.skip))) (.seq (.reg [m 15 6, m 4 15, o 5 (.mov (i
 0))]) (.ret)))))
theorem ok10 : chkFn Tryz.prog 10 ir10 2 [.t 4, .t 5] = true := by kernel_rfl
def ir36 : PC := .seq (.reg [o 2 (.box (.t 0)), o 4 (.mov (i 0))]) (.seq (.seq (.reg [o 6 (.faddr 6 (.t 2)), l 7 6, o 8 (.len (.t 7)), o 9 (.bin .sub (.t 8) (i 1)), m 5 9]) (.block
 0 (.loop (.ghost (.seq (.seq (.reg [m 10 5, o 11 (.bin .geq (.t 10) (i 0))]) (.cond (.t 11) (.skip) (.exit 0))) (.seq (.block 1 (.seq (.reg [o 14 (.faddr 6 (.t 2)), l 15 14, m 16
 5, o 17 (.iaddr 3 (.t 15) (.t 16)), o 18 (.faddr 1 (.t 17)), l 19 18, m 20 1, o 21 (.bin .eql (.t 19) (.t 20))]) (.cond (.t 21) (.seq (.reg [o 22 (.faddr 6 (.t 2)), l 23 22, m 24
 5, o 25 (.iaddr 3 (.t 23) (.t 24)), o 26 (.faddr 0 (.t 25)), l 27 26, m 4 27]) (.ret)) (.skip)))) (.reg [m 12 5, o 13 (.bin .sub (.t 12) (i 1)), m 5 13]))))))) (.seq (.reg [o 4
 (.mov (i 0))]) (.ret)))
theorem ok36 : chkFn Tryz.prog 36 ir36 2 [.t 4] = true := by kernel_rfl
def ir42 : PC := .seq (.reg [o 1 (.box (.t 0)), o 2 (.mov (.k (.undef)))]) (.seq (.reg [o 6 (.xop (.mkmap false)), m 3 6]) (.seq (.seq (.reg [o 7 (.faddr 6 (.t 1)), l 8 7, o 9 (.len
 (.t 8)), o 10 (.mov (i 0))]) (.block 0 (.loop (.ghost (.seq (.reg [o 11 (.bin .lss (.t 10) (.t 9))]) (.seq (.cond (.t 11) (.skip) (.exit 0)) (.seq (.block 1 (.seq (.reg [o 12
 (.iaddr 3 (.t 8) (.t 10)), o 13 (.load true 3 (.t 12)), o 5 (.alloc [.val (.int .i64 0), .val (.int .i64 0), .val (.int .i64 0)]), n (.store 3 (.t 5) (.t 13))]) (.reg [m 14 3, o 15
 (.faddr 1 (.t 5)), l 16 15, o 17 (.faddr 0 (.t 5)), l 18 17, n (.xop (.mupd false (.t 14) (.t 16) (.t 18)))]))) (.reg [o 19 (.bin .add (.t 10) (i 1)), m 10 19])))))))) (.seq (.reg
 [m 20 3, m 2 20]) (.ret))))
theorem ok42 : chkFn Tryz.prog 42 ir42 1 [.t 2] = true := by kernel_rfl
def ir12 : PC := .seq (.reg [o 2 (.box (.t 0)), o 4 (.mov (i 0)), o 5 (.mov (i 0))]) (.seq (.seq (.reg [o 8 (.load true 8 (.t 2)), o 9 (.call 41 [.t 8]), o 10 (.un .not (.t 9))])
 (.cond (.t 10) (.seq (.reg [o 4 (.mov (i 0)), o 5 (.mov (i 1))]) (.ret)) (.skip))) (.seq (.reg [o 12 (.load true 8 (.t 2)), o 13 (.call 42 [.t 12]), m 14 1, o 15 (.xop (.mlook
 false true (.val (.int .i64 0)) (.t 13) (.t 14))), m 11 15, o 16 (.ext 0 (.t 11)), o 17 (.ext 1 (.t 11)), m 6 16, m 7 17]) (.seq (.seq (.reg [m 18 7, o 19 (.un .not (.t 18))])
 (.cond (.t 19) (.seq (.reg [o 4 (.mov (i 0)), o 5 (.mov (i 5))]) (.ret)) (.skip))) (.seq (.reg [m 20 6, m 4 20, o 5 (.mov (i 0))]) (.ret)))))
theorem ok12 : chkFn Tryz.prog 12 ir12 2 [.t 4, .t 5] = true := by kernel_rfl
def ir3 : PC := .seq (.reg [o 2 (.box (.t 0)), o 4 (.mov F)]) (.seq (.reg [o 5 (.mov (i 1048576))]) (.seq (.reg [o 11 (.load true 8 (.t 2)), m 12 5, o 13 (.call 9 [.t 11, .t 12]), m
 5 13]) (.seq (.seq (.reg [m 14 5, o 15 (.bin .lss (.t 14) (i 0))]) (.cond (.t 15) (.seq (.reg [o 4 (.mov T)]) (.ret)) (.skip))) (.seq (.reg [o 17 (.load true 8 (.t 2)), o 18 (.call
 11 [.t 17]), m 19 1, o 20 (.call 10 [.t 18, .t 19]), m 16 20, o 21 (.ext 0 (.t 16)), o 22 (.ext 1 (.t 16)), m 6 21, m 7 22]) (.seq (.reg [o 23 (.load true 8 (.t 2)), o 24 (.call 11
 [.t 23]), o 8 (.alloc [.emp 6, .val (.str ⟨#[]⟩), .emp 1, .emp 2, .val (.int .i64 0), .val (.int .i64 0), .emp 3, .emp 7]), n (.store 8 (.t 8) (.t 24))]) (.seq (.reg [o 26 (.load
 true 8 (.t 8)), m 27 1, o 28 (.call 12 [.t 26, .t 27]), m 25 28, o 29 (.ext 0 (.t 25)), o 30 (.ext 1 (.t 25)), m 9 29, m 10 30]) (.seq (.seq (.reg [m 31 9, m 32 6, o 33 (.bin .neq
 (.t 31) (.t 32)), m 34 33, g 35 34 false (.mov (.t 10)), g 36 34 false (.mov (.t 7)), g 37 34 false (.bin .neq (.t 35) (.t 36)), o 38 (.pick (.t 34) T (.t 37))]) (.cond (.t 38)
 (.seq (.reg [o 4 (.mov F)]) (.ret)) (.skip))) (.seq (.seq (.draw [o 39 (.load true 8 (.t 8)), o 40 (.load true 8 (.t 2)), o 41 (.call 11 [.t 40])] [o 42 (.call 13 [.t 39, .t 41]),
 o 43 (.un .not (.t 42))]) (.cond (.t 43) (.seq (.reg [o 4 (.mov F)]) (.ret)) (.skip))) (.seq (.reg [o 4 (.mov T)]) (.ret))))))))))
theorem ok3 : chkFn Tryz.prog 3 ir3 2 [.t 4] = true := by kernel_rfl
end Go.Proofs
end
section
set_option maxRecDepth 100000
set_option linter.unusedVariables false
set_option linter.unusedSectionVars false
set_option linter.unusedSimpArgs false
namespace Go.Proofs
open Go.PW Go.KP
variable [GH]
end Go.Proofs
end
