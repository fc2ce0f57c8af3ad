/- Bb: merged out of IRv, IRe, IRf, IRg, IRj. -/
import Derived.Test.YtgdapgcjmfeocaaGreatDoorPWv
import Derived.Test.YtgdapgcjmfeocaaGreatDoorChecked
import Derived.KernelRfl
section
set_option maxRecDepth 100000
namespace Go.Proofs
open Go.PW Go.PW.I
def ir103 : PC := .seq (.reg [o 4 (.mov (i 0))]) (.seq (.reg [m 6 1, m 7 0, o 8 (.len (.t 7)), o 9 (.bin .sub (.t 6) (.t 8)), m 1 9]) (.seq (.seq (.reg [m 10 1, o 11 (.bin .lss (.t
 10) (i 0))]) (.cond (.t 11) (.seq (.reg [o 4 (.mov (i (-1)))]) (.ret)) (.skip))) (.seq (.seq (.reg [o 5 (.mov (i 0))]) (.block 0 (.loop (.ghost (.seq (.seq (.reg [m 12 5, m 13 0, o
 14 (.len (.t 13)), o 15 (.bin .lss (.t 12) (.t 14))]) (.cond (.t 15) (.skip) (.exit 0))) (.seq (.block 1 (.seq (.reg [m 18 0, m 19 5, o 20 (.iaddr 6 (.t 18) (.t 19)), o 21 (.load
 true 6 (.t 20)), m 22 1, o 23 (.call 145 [.t 21, .t 22]), m 1 23]) (.seq (.reg [m 24 1, o 25 (.bin .lss (.t 24) (i 0))]) (.cond (.t 25) (.seq (.reg [o 4 (.mov (i (-1)))]) (.ret))
 (.skip))))) (.reg [m 16 5, o 17 (.bin .add (.t 16) (i 1)), m 5 17]))))))) (.seq (.reg [m 26 1, m 4 26]) (.ret)))))
theorem ok103 : chkFn Tryz.prog 103 ir103 2 [.t 4] = true := by kernel_rfl
def ir145 : PC := .seq (.reg [o 2 (.box (.t 0)), o 4 (.mov (i 0))]) (.seq (.reg [o 5 (.faddr 0 (.t 2)), o 6 (.load true 3 (.t 5)), m 7 1, o 8 (.call 189 [.t 6, .t 7]), m 1 8]) (.seq
 (.seq (.reg [m 9 1, o 10 (.bin .lss (.t 9) (i 0))]) (.cond (.t 10) (.seq (.reg [o 4 (.mov (i (-1)))]) (.ret)) (.skip))) (.seq (.reg [m 11 1, m 4 11]) (.ret))))
theorem ok145 : chkFn Tryz.prog 145 ir145 2 [.t 4] = true := by kernel_rfl
def ir189 : PC := .seq (.reg [o 2 (.box (.t 0)), o 4 (.mov (i 0))]) (.seq (.reg [m 5 1, o 6 (.faddr 0 (.t 2)), l 7 6, o 8 (.lens (.t 7)), o 9 (.bin .sub (.t 5) (.t 8)), m 1 9])
 (.seq (.seq (.reg [m 10 1, o 11 (.bin .lss (.t 10) (i 0))]) (.cond (.t 11) (.seq (.reg [o 4 (.mov (i (-1)))]) (.ret)) (.skip))) (.seq (.reg [m 12 1, m 4 12]) (.ret))))
theorem ok189 : chkFn Tryz.prog 189 ir189 2 [.t 4] = true := by kernel_rfl
def ir117 : PC := .seq (.reg [o 2 (.mov (.k (.emp 6)))]) (.seq (.reg [m 5 0, o 6 (.len (.t 5)), o 7 (.mks 164 6 56 true [.val (.str ⟨#[]⟩), .val (.int .i64 0), .val (.int .i64 0),
 .val (.int .i64 0), .val (.int .i64 0), .val (.bool false)] (.t 6)), m 3 7]) (.seq (.seq (.reg [o 4 (.mov (i 0))]) (.block 0 (.loop (.ghost (.seq (.seq (.reg [m 8 4, m 9 0, o 10
 (.len (.t 9)), o 11 (.bin .lss (.t 8) (.t 10))]) (.cond (.t 11) (.skip) (.exit 0))) (.seq (.block 1 (.reg [m 14 3, m 15 4, m 16 0, m 17 4, o 18 (.iaddr 6 (.t 16) (.t 17)), o 19
 (.load true 6 (.t 18)), o 20 (.call 156 [.t 19]), o 21 (.iaddr 6 (.t 14) (.t 15)), n (.store 6 (.t 21) (.t 20))])) (.reg [m 12 4, o 13 (.bin .add (.t 12) (i 1)), m 4 13])))))))
 (.seq (.reg [m 22 3, m 2 22]) (.ret))))
theorem ok117 : chkFn Tryz.prog 117 ir117 1 [.t 2] = true := by kernel_rfl
def ir156 : PC := .seq (.reg [o 1 (.box (.t 0)), o 2 (.alloc [.val (.str ⟨#[]⟩), .val (.int .i64 0), .val (.int .i64 0), .val (.int .i64 0), .val (.int .i64 0), .val (.bool
 false)])]) (.seq (.reg [o 3 (.alloc [.val (.str ⟨#[]⟩), .val (.int .i64 0), .val (.int .i64 0), .val (.int .i64 0), .val (.int .i64 0), .val (.bool false)])]) (.seq (.reg [o 4
 (.faddr 0 (.t 1)), o 5 (.load true 3 (.t 4)), o 6 (.call 194 [.t 5]), o 7 (.faddr 0 (.t 3)), n (.store 3 (.t 7) (.t 6))]) (.seq (.reg [o 8 (.faddr 3 (.t 1)), l 9 8, o 10 (.faddr 3
 (.t 3)), n (.store 1 (.t 10) (.t 9))]) (.seq (.reg [o 11 (.faddr 4 (.t 1)), l 12 11, o 13 (.faddr 4 (.t 3)), n (.store 1 (.t 13) (.t 12))]) (.seq (.reg [o 14 (.faddr 5 (.t 1)), l
 15 14, o 16 (.faddr 5 (.t 3)), n (.store 1 (.t 16) (.t 15))]) (.seq (.reg [o 17 (.load true 6 (.t 3)), n (.store 6 (.t 2) (.t 17))]) (.ret)))))))
theorem ok156 : chkFn Tryz.prog 156 ir156 1 [.c 2 true 6] = true := by kernel_rfl
def ir194 : PC := .seq (.reg [o 1 (.box (.t 0)), o 2 (.alloc [.val (.str ⟨#[]⟩), .val (.int .i64 0), .val (.int .i64 0)])]) (.seq (.reg [o 3 (.alloc [.val (.str ⟨#[]⟩), .val (.int
 .i64 0), .val (.int .i64 0)])]) (.seq (.reg [o 4 (.faddr 0 (.t 1)), l 5 4, o 6 (.faddr 0 (.t 3)), n (.store 1 (.t 6) (.t 5))]) (.seq (.reg [o 7 (.faddr 1 (.t 1)), l 8 7, o 9
 (.faddr 1 (.t 3)), n (.store 1 (.t 9) (.t 8))]) (.seq (.reg [o 10 (.faddr 2 (.t 1)), l 11 10, o 12 (.faddr 2 (.t 3)), n (.store 1 (.t 12) (.t 11))]) (.seq (.reg [o 13 (.load true 3
 (.t 3)), n (.store 3 (.t 2) (.t 13))]) (.ret))))))
theorem ok194 : chkFn Tryz.prog 194 ir194 1 [.c 2 true 3] = true := by kernel_rfl
def ir139 : PC := .seq (.reg [o 4 (.mov F)]) (.seq (.seq (.reg [m 6 0, o 7 (.len (.t 6)), m 8 1, o 9 (.len (.t 8)), o 10 (.bin .neq (.t 7) (.t 9))]) (.cond (.t 10) (.seq (.reg [o 4
 (.mov F)]) (.ret)) (.skip))) (.seq (.seq (.reg [o 5 (.mov (i 0))]) (.block 0 (.loop (.ghost (.seq (.seq (.reg [m 11 5, m 12 0, o 13 (.len (.t 12)), o 14 (.bin .lss (.t 11) (.t
 13))]) (.cond (.t 14) (.skip) (.exit 0))) (.seq (.block 1 (.seq (.draw [m 17 0, m 18 5, o 19 (.iaddr 6 (.t 17) (.t 18)), o 20 (.load true 6 (.t 19)), m 21 1, m 22 5, o 23 (.iaddr 6
 (.t 21) (.t 22)), o 24 (.load true 6 (.t 23))] [o 25 (.call 176 [.t 20, .t 24]), o 26 (.un .not (.t 25))]) (.cond (.t 26) (.seq (.reg [o 4 (.mov F)]) (.ret)) (.skip)))) (.reg [m 15
 5, o 16 (.bin .add (.t 15) (i 1)), m 5 16]))))))) (.seq (.reg [o 4 (.mov T)]) (.ret))))
theorem ok139 : chkFn Tryz.prog 139 ir139 2 [.t 4] = true := by kernel_rfl
def ir176 : PC := .seq (.reg [o 2 (.box (.t 0)), o 3 (.box (.t 1)), o 4 (.mov F)]) (.seq (.seq (.reg [o 5 (.faddr 0 (.t 2)), o 6 (.load true 3 (.t 5)), o 7 (.faddr 0 (.t 3)), o 8
 (.load true 3 (.t 7)), o 9 (.call 207 [.t 6, .t 8]), o 10 (.un .not (.t 9))]) (.cond (.t 10) (.seq (.reg [o 4 (.mov F)]) (.ret)) (.skip))) (.seq (.seq (.reg [o 11 (.faddr 3 (.t
 2)), l 12 11, o 13 (.faddr 3 (.t 3)), l 14 13, o 15 (.bin .neq (.t 12) (.t 14))]) (.cond (.t 15) (.seq (.reg [o 4 (.mov F)]) (.ret)) (.skip))) (.seq (.seq (.reg [o 16 (.faddr 4 (.t
 2)), l 17 16, o 18 (.faddr 4 (.t 3)), l 19 18, o 20 (.bin .neq (.t 17) (.t 19))]) (.cond (.t 20) (.seq (.reg [o 4 (.mov F)]) (.ret)) (.skip))) (.seq (.seq (.reg [o 21 (.faddr 5 (.t
 2)), l 22 21, o 23 (.faddr 5 (.t 3)), l 24 23, o 25 (.eqb true (.t 22) (.t 24))]) (.cond (.t 25) (.seq (.reg [o 4 (.mov F)]) (.ret)) (.skip))) (.seq (.reg [o 4 (.mov T)])
 (.ret))))))
theorem ok176 : chkFn Tryz.prog 176 ir176 2 [.t 4] = true := by kernel_rfl
def ir207 : PC := .seq (.reg [o 2 (.box (.t 0)), o 3 (.box (.t 1)), o 4 (.mov F)]) (.seq (.seq (.reg [o 5 (.faddr 0 (.t 2)), l 6 5, o 7 (.faddr 0 (.t 3)), l 8 7, o 9 (.bin .neq (.t
 6) (.t 8))]) (.cond (.t 9) (.seq (.reg [o 4 (.mov F)]) (.ret)) (.skip))) (.seq (.seq (.reg [o 10 (.faddr 1 (.t 2)), l 11 10, o 12 (.faddr 1 (.t 3)), l 13 12, o 14 (.bin .neq (.t
 11) (.t 13))]) (.cond (.t 14) (.seq (.reg [o 4 (.mov F)]) (.ret)) (.skip))) (.seq (.seq (.reg [o 15 (.faddr 2 (.t 2)), l 16 15, o 17 (.faddr 2 (.t 3)), l 18 17, o 19 (.bin .neq (.t
 16) (.t 18))]) (.cond (.t 19) (.seq (.reg [o 4 (.mov F)]) (.ret)) (.skip))) (.seq (.reg [o 4 (.mov T)]) (.ret)))))
theorem ok207 : chkFn Tryz.prog 207 ir207 2 [.t 4] = true := by kernel_rfl
end Go.Proofs
end
section
set_option maxRecDepth 100000
namespace Go.Proofs
open Go.PW Go.PW.I
def ir148 : PC := .seq (.reg [o 2 (.mov (z #[])), o 3 (.mov F)]) (.seq (.reg [m 7 0, o 8 (.call 191 [.t 7]), m 6 8, o 9 (.ext 0 (.t 6)), o 10 (.ext 1 (.t 6)), o 4 (.alloc [.val
 (.str ⟨#[]⟩), .val (.str ⟨#[]⟩), .val (.str ⟨#[]⟩), .val (.int .i64 0), .val (.str ⟨#[]⟩), .val (.str ⟨#[]⟩), .val (.str ⟨#[]⟩), .val (.bool false), .val (.bool false)]), n (.store
 9 (.t 4) (.t 9)), m 5 10]) (.seq (.seq (.reg [m 11 5, o 12 (.un .not (.t 11)), m 13 12, g 14 13 false (.faddr 0 (.t 4)), g 15 13 false (.load false 1 (.t 14)), g 16 13 false (.call
 192 [.t 15]), g 17 13 false (.un .not (.t 16)), o 18 (.pick (.t 13) T (.t 17))]) (.cond (.t 18) (.seq (.reg [o 2 (.mov (z #[])), o 3 (.mov F)]) (.ret)) (.skip))) (.seq (.reg [o 19
 (.faddr 8 (.t 4)), n (.store 1 (.t 19) F)]) (.seq (.reg [o 20 (.faddr 6 (.t 4)), n (.store 1 (.t 20) (z #[]))]) (.seq (.reg [o 21 (.load true 9 (.t 4)), o 22 (.call 193 [.t 21]), m
 2 22, o 3 (.mov T)]) (.ret))))))
theorem ok148 : chkFn Tryz.prog 148 ir148 1 [.t 2, .t 3] = true := by kernel_rfl
def ir107 : PC := .seq (.reg [o 2 (.mov F)]) (.seq (.seq (.reg [m 4 0, o 5 (.lens (.t 4)), o 6 (.call 56 [.t 5, .k (.val (.int .i64 1)), .k (.val (.int .i64 24))]), o 7 (.un .not
 (.t 6))]) (.cond (.t 7) (.seq (.reg [o 2 (.mov F)]) (.ret)) (.skip))) (.seq (.seq (.reg [o 3 (.mov (i 0))]) (.block 0 (.loop (.ghost (.seq (.seq (.reg [m 8 3, m 9 0, o 10 (.lens
 (.t 9)), o 11 (.bin .lss (.t 8) (.t 10))]) (.cond (.t 11) (.skip) (.exit 0))) (.seq (.block 1 (.seq (.reg [m 14 0, m 15 3, o 16 (.idx (.t 14) (.t 15)), o 17 (.bin .lss (.t 16) (.k
 (.val (.int .u8 97)))), m 18 17, g 19 18 false (.mov (.t 0)), g 20 18 false (.mov (.t 3)), g 21 18 false (.idx (.t 19) (.t 20)), g 22 18 false (.bin .gtr (.t 21) (.k (.val (.int
 .u8 122)))), o 23 (.pick (.t 18) T (.t 22)), m 24 23, g 25 24 true (.mov (.t 0)), g 26 24 true (.mov (.t 3)), g 27 24 true (.idx (.t 25) (.t 26)), g 28 24 true (.bin .neq (.t 27)
 (.k (.val (.int .u8 45)))), g 29 24 true (.mov (.t 28)), g 30 29 false (.mov (.t 3)), g 31 29 false (.bin .eql (.t 30) (i 0)), g 32 24 true (.pick (.t 29) T (.t 31)), o 33 (.pick
 (.t 24) (.t 32) F)]) (.cond (.t 33) (.seq (.reg [o 2 (.mov F)]) (.ret)) (.skip)))) (.reg [m 12 3, o 13 (.bin .add (.t 12) (i 1)), m 3 13]))))))) (.seq (.reg [o 2 (.mov T)])
 (.ret))))
theorem ok107 : chkFn Tryz.prog 107 ir107 1 [.t 2] = true := by kernel_rfl
def ir147 : PC := .seq (.reg [o 2 (.mov F)]) (.seq (.reg [m 3 0, o 4 (.bin .eql (.t 3) (.k (.val (.int .u8 32)))), m 5 4, g 6 5 false (.mov (.t 0)), g 7 5 false (.bin .eql (.t 6)
 (.k (.val (.int .u8 9)))), o 8 (.pick (.t 5) T (.t 7)), m 2 8]) (.ret))
theorem ok147 : chkFn Tryz.prog 147 ir147 1 [.t 2] = true := by kernel_rfl
def ir109 : PC := .seq (.reg [o 2 (.mov F)]) (.seq (.seq (.reg [o 3 (.mov (i 0))]) (.block 0 (.loop (.ghost (.seq (.seq (.reg [m 4 3, m 5 0, o 6 (.lens (.t 5)), o 7 (.bin .lss (.t
 4) (.t 6))]) (.cond (.t 7) (.skip) (.exit 0))) (.seq (.block 1 (.seq (.reg [m 10 0, m 11 3, o 12 (.idx (.t 10) (.t 11)), o 13 (.call 147 [.t 12]), m 14 13, g 15 14 false (.mov (.t
 0)), g 16 14 false (.mov (.t 3)), g 17 14 false (.idx (.t 15) (.t 16)), g 18 14 false (.bin .eql (.t 17) (.k (.val (.int .u8 59)))), o 19 (.pick (.t 14) T (.t 18))]) (.cond (.t 19)
 (.seq (.reg [o 2 (.mov F)]) (.ret)) (.skip)))) (.reg [m 8 3, o 9 (.bin .add (.t 8) (i 1)), m 3 9]))))))) (.seq (.reg [m 20 0, o 21 (.lens (.t 20)), o 22 (.bin .gtr (.t 21) (i 0)),
 m 2 22]) (.ret)))
theorem ok109 : chkFn Tryz.prog 109 ir109 1 [.t 2] = true := by kernel_rfl
def ir108 : PC := .seq (.reg [o 4 (.mov (i 0))]) (.seq (.seq (.reg [o 5 (.mov (i 0))]) (.block 0 (.loop (.ghost (.seq (.seq (.reg [m 6 5, m 7 0, o 8 (.len (.t 7)), o 9 (.bin .lss
 (.t 6) (.t 8))]) (.cond (.t 9) (.skip) (.exit 0))) (.seq (.block 1 (.seq (.reg [m 12 0, m 13 5, o 14 (.iaddr 2 (.t 12) (.t 13)), o 15 (.faddr 0 (.t 14)), l 16 15, m 17 1, o 18
 (.bin .eql (.t 16) (.t 17))]) (.cond (.t 18) (.seq (.reg [m 19 5, m 4 19]) (.ret)) (.skip)))) (.reg [m 10 5, o 11 (.bin .add (.t 10) (i 1)), m 5 11]))))))) (.seq (.reg [o 4 (.mov
 (i (-1)))]) (.ret)))
theorem ok108 : chkFn Tryz.prog 108 ir108 2 [.t 4] = true := by kernel_rfl
def ir149 : PC := .seq (.reg [o 4 (.mov F)]) (.seq (.seq (.reg [o 5 (.mov (i 0))]) (.block 0 (.loop (.ghost (.seq (.seq (.reg [m 6 5, m 7 0, o 8 (.len (.t 7)), o 9 (.bin .lss (.t 6)
 (.t 8))]) (.cond (.t 9) (.skip) (.exit 0))) (.seq (.block 1 (.seq (.reg [m 12 0, m 13 5, o 14 (.iaddr 1 (.t 12) (.t 13)), l 15 14, m 16 1, o 17 (.bin .eql (.t 15) (.t 16))]) (.cond
 (.t 17) (.seq (.reg [o 4 (.mov T)]) (.ret)) (.skip)))) (.reg [m 10 5, o 11 (.bin .add (.t 10) (i 1)), m 5 11]))))))) (.seq (.reg [o 4 (.mov F)]) (.ret)))
theorem ok149 : chkFn Tryz.prog 149 ir149 2 [.t 4] = true := by kernel_rfl
def ir111 : PC := .seq (.reg [o 4 (.mov F)]) (.seq (.seq (.reg [m 6 0, o 7 (.len (.t 6)), m 8 1, o 9 (.len (.t 8)), o 10 (.bin .neq (.t 7) (.t 9))]) (.cond (.t 10) (.seq (.reg [o 4
 (.mov F)]) (.ret)) (.skip))) (.seq (.seq (.reg [o 5 (.mov (i 0))]) (.block 0 (.loop (.ghost (.seq (.seq (.reg [m 11 5, m 12 0, o 13 (.len (.t 12)), o 14 (.bin .lss (.t 11) (.t
 13))]) (.cond (.t 14) (.skip) (.exit 0))) (.seq (.block 1 (.seq (.draw [m 17 0, m 18 5, o 19 (.iaddr 1 (.t 17) (.t 18)), l 20 19, m 21 1, m 22 5, o 23 (.iaddr 1 (.t 21) (.t 22)), l
 24 23] [o 25 (.bin .neq (.t 20) (.t 24))]) (.cond (.t 25) (.seq (.reg [o 4 (.mov F)]) (.ret)) (.skip)))) (.reg [m 15 5, o 16 (.bin .add (.t 15) (i 1)), m 5 16]))))))) (.seq (.reg
 [o 4 (.mov T)]) (.ret))))
theorem ok111 : chkFn Tryz.prog 111 ir111 2 [.t 4] = true := by kernel_rfl
def ir110_from4 : PC := .seq (.reg [o 89 (.load true 3 (.t 3)), n (.store 3 (.t 2) (.t 89))]) (.ret)
def ir110_from3 : PC := .seq (.seq (.reg [m 43 0, o 44 (.call 108 [.t 43, .k (.val (.str ⟨#[114, 101, 112, 111, 114, 116, 45, 117, 114, 105]⟩))]), m 5 44]) (.seq (.reg [m 45 5, o 46
 (.bin .geq (.t 45) (i 0))]) (.cond (.t 46) (.seq (.reg [o 6 (.mov (i 0))]) (.block 0 (.loop (.ghost (.seq (.seq (.reg [m 47 6, m 48 0, m 49 5, o 50 (.iaddr 2 (.t 48) (.t 49)), o 51
 (.faddr 1 (.t 50)), l 52 51, o 53 (.len (.t 52)), o 54 (.bin .lss (.t 47) (.t 53))]) (.cond (.t 54) (.skip) (.exit 0))) (.seq (.block 1 (.seq (.reg [m 58 0, m 59 5, o 60 (.iaddr 2
 (.t 58) (.t 59)), o 61 (.faddr 1 (.t 60)), l 62 61, m 63 6, o 64 (.iaddr 1 (.t 62) (.t 63)), l 65 64, o 66 (.call 148 [.t 65]), m 57 66, o 67 (.ext 0 (.t 57)), o 68 (.ext 1 (.t
 57)), m 7 67, m 8 68]) (.seq (.reg [m 69 8, m 70 69, g 71 70 true (.faddr 1 (.t 3)), g 72 70 true (.load false 1 (.t 71)), g 73 70 true (.mov (.t 7)), g 74 70 true (.call 149 [.t
 72, .t 73]), g 75 70 true (.un .not (.t 74)), o 76 (.pick (.t 70) (.t 75) F), m 77 76, g 78 77 true (.faddr 1 (.t 3)), g 79 77 true (.load false 1 (.t 78)), g 80 77 true (.len (.t
 79)), g 81 77 true (.bin .lss (.t 80) (i 4)), o 82 (.pick (.t 77) (.t 81) F)]) (.cond (.t 82) (.reg [o 83 (.faddr 1 (.t 3)), l 84 83, m 85 7, o 86 (.lit 9 1 [.t 85]), o 87 (.app 9
 1 16 (.t 84) (.t 86)), o 88 (.faddr 1 (.t 3)), n (.store 1 (.t 88) (.t 87))]) (.skip))))) (.reg [m 55 6, o 56 (.bin .add (.t 55) (i 1)), m 6 56]))))))) (.skip)))) (ir110_from4)
def ir110 : PC := .seq (.reg [o 2 (.alloc [.val (.str ⟨#[]⟩), .emp 1, .emp 2])]) (.seq (.reg [o 9 (.lit 9 1 []), m 10 0, o 11 (.build [.val (.str ⟨#[]⟩), .emp 1, .emp 2] [(1, 1, .t
 9), (2, 1, .t 10)]), o 3 (.alloc [.val (.str ⟨#[]⟩), .emp 1, .emp 2]), n (.store 3 (.t 3) (.t 11))]) (.seq (.seq (.reg [m 12 0, o 13 (.call 108 [.t 12, .k (.val (.str ⟨#[114, 101,
 112, 111, 114, 116, 45, 116, 111]⟩))]), m 4 13]) (.seq (.reg [m 14 4, o 15 (.bin .geq (.t 14) (i 0)), m 16 15, g 17 16 true (.mov (.t 0)), g 18 16 true (.mov (.t 4)), g 19 16 true
 (.iaddr 2 (.t 17) (.t 18)), g 20 16 true (.faddr 1 (.t 19)), g 21 16 true (.load false 1 (.t 20)), g 22 16 true (.len (.t 21)), g 23 16 true (.bin .gtr (.t 22) (i 0)), o 24 (.pick
 (.t 16) (.t 23) F), m 25 24, g 26 25 true (.mov (.t 0)), g 27 25 true (.mov (.t 4)), g 28 25 true (.iaddr 2 (.t 26) (.t 27)), g 29 25 true (.faddr 1 (.t 28)), g 30 25 true (.load
 false 1 (.t 29)), g 31 25 true (.iaddr 1 (.t 30) (i 0)), g 32 25 true (.load false 1 (.t 31)), g 33 25 true (.call 115 [.t 32]), o 34 (.pick (.t 25) (.t 33) F)]) (.cond (.t 34)
 (.reg [m 35 0, m 36 4, o 37 (.iaddr 2 (.t 35) (.t 36)), o 38 (.faddr 1 (.t 37)), l 39 38, o 40 (.iaddr 1 (.t 39) (i 0)), l 41 40, o 42 (.faddr 0 (.t 3)), n (.store 1 (.t 42) (.t
 41))]) (.skip)))) (ir110_from3)))
theorem ok110 : chkFn Tryz.prog 110 ir110 1 [.c 2 true 3] = true := by kernel_rfl
def ir71_l42 : PC := .seq (.seq (.reg [m 42 5, o 43 (.faddr 1 (.t 4)), l 44 43, o 45 (.len (.t 44)), o 46 (.bin .lss (.t 42) (.t 45))]) (.cond (.t 46) (.skip) (.exit 2))) (.seq
 (.block 3 (.seq (.reg [o 49 (.faddr 1 (.t 4)), l 50 49, m 51 5, o 52 (.iaddr 1 (.t 50) (.t 51)), l 53 52, o 54 (.call 109 [.t 53]), o 55 (.un .not (.t 54))]) (.cond (.t 55) (.seq
 (.reg [o 2 (.mov F)]) (.ret)) (.skip)))) (.reg [m 47 5, o 48 (.bin .add (.t 47) (i 1)), m 5 48]))
def ir71_s42 : PC := .block 2 (.loop (.ghost ir71_l42))
def ir71_l11 : PC := .seq (.seq (.reg [m 11 3, o 12 (.faddr 2 (.t 1)), l 13 12, o 14 (.len (.t 13)), o 15 (.bin .lss (.t 11) (.t 14))]) (.cond (.t 15) (.skip) (.exit 0))) (.seq
 (.block 1 (.seq (.reg [o 18 (.faddr 2 (.t 1)), l 19 18, m 20 3, o 21 (.iaddr 2 (.t 19) (.t 20)), o 22 (.load true 2 (.t 21)), o 4 (.alloc [.val (.str ⟨#[]⟩), .emp 1]), n (.store 2
 (.t 4) (.t 22))]) (.seq (.seq (.reg [o 23 (.faddr 0 (.t 4)), l 24 23, o 25 (.call 107 [.t 24]), o 26 (.un .not (.t 25)), m 27 26, g 28 27 false (.faddr 2 (.t 1)), g 29 27 false
 (.load false 1 (.t 28)), g 30 27 false (.faddr 0 (.t 4)), g 31 27 false (.load false 1 (.t 30)), g 32 27 false (.call 108 [.t 29, .t 31]), g 33 27 false (.mov (.t 3)), g 34 27
 false (.bin .neq (.t 32) (.t 33)), o 35 (.pick (.t 27) T (.t 34)), m 36 35, g 37 36 false (.faddr 1 (.t 4)), g 38 36 false (.load false 1 (.t 37)), g 39 36 false (.len (.t 38)), g
 40 36 false (.bin .gtr (.t 39) (i 8)), o 41 (.pick (.t 36) T (.t 40))]) (.cond (.t 41) (.seq (.reg [o 2 (.mov F)]) (.ret)) (.skip))) (.seq (.reg [o 5 (.mov (i 0))]) (ir71_s42)))))
 (.reg [m 16 3, o 17 (.bin .add (.t 16) (i 1)), m 3 17]))
def ir71_from3 : PC := .seq (.reg [o 56 (.faddr 2 (.t 1)), l 57 56, o 58 (.call 110 [.t 57]), o 6 (.alloc [.val (.str ⟨#[]⟩), .emp 1, .emp 2]), n (.store 3 (.t 6) (.t 58))]) (.seq
 (.reg [o 59 (.faddr 0 (.t 1)), l 60 59, o 61 (.faddr 0 (.t 6)), l 62 61, o 63 (.bin .eql (.t 60) (.t 62)), m 64 63, g 65 64 true (.faddr 1 (.t 1)), g 66 64 true (.load false 1 (.t
 65)), g 67 64 true (.faddr 1 (.t 6)), g 68 64 true (.load false 1 (.t 67)), g 69 64 true (.call 111 [.t 66, .t 68]), o 70 (.pick (.t 64) (.t 69) F), m 2 70]) (.ret))
def ir71 : PC := .seq (.reg [o 1 (.box (.t 0)), o 2 (.mov F)]) (.seq (.seq (.reg [o 7 (.faddr 2 (.t 1)), l 8 7, o 9 (.len (.t 8)), o 10 (.bin .gtr (.t 9) (i 8))]) (.cond (.t 10)
 (.seq (.reg [o 2 (.mov F)]) (.ret)) (.skip))) (.seq (.seq (.reg [o 3 (.mov (i 0))]) (.block 0 (.loop (.ghost ir71_l11)))) (ir71_from3)))
theorem ok71 : chkFn Tryz.prog 71 ir71 1 [.t 2] = true := by kernel_rfl
end Go.Proofs
end
section
set_option maxRecDepth 100000
namespace Go.Proofs
open Go.PW Go.PW.I
def ir68 : PC := .seq (.reg [o 4 (.mov (i 0))]) (.seq (.reg [m 6 1, m 7 0, o 8 (.len (.t 7)), o 9 (.bin .sub (.t 6) (.t 8)), m 1 9]) (.seq (.seq (.reg [m 10 1, o 11 (.bin .lss (.t
 10) (i 0))]) (.cond (.t 11) (.seq (.reg [o 4 (.mov (i (-1)))]) (.ret)) (.skip))) (.seq (.seq (.reg [o 5 (.mov (i 0))]) (.block 0 (.loop (.ghost (.seq (.seq (.reg [m 12 5, m 13 0, o
 14 (.len (.t 13)), o 15 (.bin .lss (.t 12) (.t 14))]) (.cond (.t 15) (.skip) (.exit 0))) (.seq (.block 1 (.seq (.reg [m 18 1, m 19 0, m 20 5, o 21 (.iaddr 1 (.t 19) (.t 20)), l 22
 21, o 23 (.lens (.t 22)), o 24 (.bin .sub (.t 18) (.t 23)), m 1 24]) (.seq (.reg [m 25 1, o 26 (.bin .lss (.t 25) (i 0))]) (.cond (.t 26) (.seq (.reg [o 4 (.mov (i (-1)))]) (.ret))
 (.skip))))) (.reg [m 16 5, o 17 (.bin .add (.t 16) (i 1)), m 5 17]))))))) (.seq (.reg [m 27 1, m 4 27]) (.ret)))))
theorem ok68 : chkFn Tryz.prog 68 ir68 2 [.t 4] = true := by kernel_rfl
def ir105 : PC := .seq (.reg [o 2 (.box (.t 0)), o 4 (.mov (i 0))]) (.seq (.reg [m 5 1, o 6 (.faddr 0 (.t 2)), l 7 6, o 8 (.lens (.t 7)), o 9 (.bin .sub (.t 5) (.t 8)), m 1 9])
 (.seq (.seq (.reg [m 10 1, o 11 (.bin .lss (.t 10) (i 0))]) (.cond (.t 11) (.seq (.reg [o 4 (.mov (i (-1)))]) (.ret)) (.skip))) (.seq (.reg [o 12 (.faddr 1 (.t 2)), l 13 12, m 14
 1, o 15 (.call 68 [.t 13, .t 14]), m 1 15]) (.seq (.seq (.reg [m 16 1, o 17 (.bin .lss (.t 16) (i 0))]) (.cond (.t 17) (.seq (.reg [o 4 (.mov (i (-1)))]) (.ret)) (.skip))) (.seq
 (.reg [m 18 1, m 4 18]) (.ret))))))
theorem ok105 : chkFn Tryz.prog 105 ir105 2 [.t 4] = true := by kernel_rfl
def ir69 : PC := .seq (.reg [o 4 (.mov (i 0))]) (.seq (.reg [m 6 1, m 7 0, o 8 (.len (.t 7)), o 9 (.bin .sub (.t 6) (.t 8)), m 1 9]) (.seq (.seq (.reg [m 10 1, o 11 (.bin .lss (.t
 10) (i 0))]) (.cond (.t 11) (.seq (.reg [o 4 (.mov (i (-1)))]) (.ret)) (.skip))) (.seq (.seq (.reg [o 5 (.mov (i 0))]) (.block 0 (.loop (.ghost (.seq (.seq (.reg [m 12 5, m 13 0, o
 14 (.len (.t 13)), o 15 (.bin .lss (.t 12) (.t 14))]) (.cond (.t 15) (.skip) (.exit 0))) (.seq (.block 1 (.seq (.reg [m 18 0, m 19 5, o 20 (.iaddr 2 (.t 18) (.t 19)), o 21 (.load
 true 2 (.t 20)), m 22 1, o 23 (.call 105 [.t 21, .t 22]), m 1 23]) (.seq (.reg [m 24 1, o 25 (.bin .lss (.t 24) (i 0))]) (.cond (.t 25) (.seq (.reg [o 4 (.mov (i (-1)))]) (.ret))
 (.skip))))) (.reg [m 16 5, o 17 (.bin .add (.t 16) (i 1)), m 5 17]))))))) (.seq (.reg [m 26 1, m 4 26]) (.ret)))))
theorem ok69 : chkFn Tryz.prog 69 ir69 2 [.t 4] = true := by kernel_rfl
def ir32 : PC := .seq (.reg [o 2 (.box (.t 0)), o 4 (.mov (i 0))]) (.seq (.reg [m 5 1, o 6 (.faddr 0 (.t 2)), l 7 6, o 8 (.lens (.t 7)), o 9 (.bin .sub (.t 5) (.t 8)), m 1 9]) (.seq
 (.seq (.reg [m 10 1, o 11 (.bin .lss (.t 10) (i 0))]) (.cond (.t 11) (.seq (.reg [o 4 (.mov (i (-1)))]) (.ret)) (.skip))) (.seq (.reg [o 12 (.faddr 1 (.t 2)), l 13 12, m 14 1, o 15
 (.call 68 [.t 13, .t 14]), m 1 15]) (.seq (.seq (.reg [m 16 1, o 17 (.bin .lss (.t 16) (i 0))]) (.cond (.t 17) (.seq (.reg [o 4 (.mov (i (-1)))]) (.ret)) (.skip))) (.seq (.reg [o
 18 (.faddr 2 (.t 2)), l 19 18, m 20 1, o 21 (.call 69 [.t 19, .t 20]), m 1 21]) (.seq (.seq (.reg [m 22 1, o 23 (.bin .lss (.t 22) (i 0))]) (.cond (.t 23) (.seq (.reg [o 4 (.mov (i
 (-1)))]) (.ret)) (.skip))) (.seq (.reg [m 24 1, m 4 24]) (.ret))))))))
theorem ok32 : chkFn Tryz.prog 32 ir32 2 [.t 4] = true := by kernel_rfl
def ir76 : PC := .seq (.reg [o 2 (.mov (.k (.emp 1)))]) (.seq (.reg [m 5 0, o 6 (.len (.t 5)), o 7 (.mks 9 1 16 false [.val (.str ⟨#[]⟩)] (.t 6)), m 3 7]) (.seq (.seq (.reg [o 4
 (.mov (i 0))]) (.block 0 (.loop (.ghost (.seq (.seq (.reg [m 8 4, m 9 0, o 10 (.len (.t 9)), o 11 (.bin .lss (.t 8) (.t 10))]) (.cond (.t 11) (.skip) (.exit 0))) (.seq (.block 1
 (.reg [m 14 3, m 15 4, m 16 0, m 17 4, o 18 (.iaddr 1 (.t 16) (.t 17)), l 19 18, o 20 (.iaddr 1 (.t 14) (.t 15)), n (.store 1 (.t 20) (.t 19))])) (.reg [m 12 4, o 13 (.bin .add (.t
 12) (i 1)), m 4 13]))))))) (.seq (.reg [m 21 3, m 2 21]) (.ret))))
theorem ok76 : chkFn Tryz.prog 76 ir76 1 [.t 2] = true := by kernel_rfl
def ir119 : PC := .seq (.reg [o 1 (.box (.t 0)), o 2 (.alloc [.val (.str ⟨#[]⟩), .emp 1])]) (.seq (.reg [o 3 (.alloc [.val (.str ⟨#[]⟩), .emp 1])]) (.seq (.reg [o 4 (.faddr 0 (.t
 1)), l 5 4, o 6 (.faddr 0 (.t 3)), n (.store 1 (.t 6) (.t 5))]) (.seq (.reg [o 7 (.faddr 1 (.t 1)), l 8 7, o 9 (.call 76 [.t 8]), o 10 (.faddr 1 (.t 3)), n (.store 1 (.t 10) (.t
 9))]) (.seq (.reg [o 11 (.load true 2 (.t 3)), n (.store 2 (.t 2) (.t 11))]) (.ret)))))
theorem ok119 : chkFn Tryz.prog 119 ir119 1 [.c 2 true 2] = true := by kernel_rfl
def ir77 : PC := .seq (.reg [o 2 (.mov (.k (.emp 2)))]) (.seq (.reg [m 5 0, o 6 (.len (.t 5)), o 7 (.mks 154 2 40 true [.val (.str ⟨#[]⟩), .emp 1] (.t 6)), m 3 7]) (.seq (.seq (.reg
 [o 4 (.mov (i 0))]) (.block 0 (.loop (.ghost (.seq (.seq (.reg [m 8 4, m 9 0, o 10 (.len (.t 9)), o 11 (.bin .lss (.t 8) (.t 10))]) (.cond (.t 11) (.skip) (.exit 0))) (.seq (.block
 1 (.reg [m 14 3, m 15 4, m 16 0, m 17 4, o 18 (.iaddr 2 (.t 16) (.t 17)), o 19 (.load true 2 (.t 18)), o 20 (.call 119 [.t 19]), o 21 (.iaddr 2 (.t 14) (.t 15)), n (.store 2 (.t
 21) (.t 20))])) (.reg [m 12 4, o 13 (.bin .add (.t 12) (i 1)), m 4 13]))))))) (.seq (.reg [m 22 3, m 2 22]) (.ret))))
theorem ok77 : chkFn Tryz.prog 77 ir77 1 [.t 2] = true := by kernel_rfl
def ir38 : PC := .seq (.reg [o 1 (.box (.t 0)), o 2 (.alloc [.val (.str ⟨#[]⟩), .emp 1, .emp 2])]) (.seq (.reg [o 3 (.alloc [.val (.str ⟨#[]⟩), .emp 1, .emp 2])]) (.seq (.reg [o 4
 (.faddr 0 (.t 1)), l 5 4, o 6 (.faddr 0 (.t 3)), n (.store 1 (.t 6) (.t 5))]) (.seq (.reg [o 7 (.faddr 1 (.t 1)), l 8 7, o 9 (.call 76 [.t 8]), o 10 (.faddr 1 (.t 3)), n (.store 1
 (.t 10) (.t 9))]) (.seq (.reg [o 11 (.faddr 2 (.t 1)), l 12 11, o 13 (.call 77 [.t 12]), o 14 (.faddr 2 (.t 3)), n (.store 1 (.t 14) (.t 13))]) (.seq (.reg [o 15 (.load true 3 (.t
 3)), n (.store 3 (.t 2) (.t 15))]) (.ret))))))
theorem ok38 : chkFn Tryz.prog 38 ir38 1 [.c 2 true 3] = true := by kernel_rfl
def ir88 : PC := .seq (.reg [o 4 (.mov F)]) (.seq (.seq (.reg [m 6 0, o 7 (.len (.t 6)), m 8 1, o 9 (.len (.t 8)), o 10 (.bin .neq (.t 7) (.t 9))]) (.cond (.t 10) (.seq (.reg [o 4
 (.mov F)]) (.ret)) (.skip))) (.seq (.seq (.reg [o 5 (.mov (i 0))]) (.block 0 (.loop (.ghost (.seq (.seq (.reg [m 11 5, m 12 0, o 13 (.len (.t 12)), o 14 (.bin .lss (.t 11) (.t
 13))]) (.cond (.t 14) (.skip) (.exit 0))) (.seq (.block 1 (.seq (.draw [m 17 0, m 18 5, o 19 (.iaddr 1 (.t 17) (.t 18)), l 20 19, m 21 1, m 22 5, o 23 (.iaddr 1 (.t 21) (.t 22)), l
 24 23] [o 25 (.bin .neq (.t 20) (.t 24))]) (.cond (.t 25) (.seq (.reg [o 4 (.mov F)]) (.ret)) (.skip)))) (.reg [m 15 5, o 16 (.bin .add (.t 15) (i 1)), m 5 16]))))))) (.seq (.reg
 [o 4 (.mov T)]) (.ret))))
theorem ok88 : chkFn Tryz.prog 88 ir88 2 [.t 4] = true := by kernel_rfl
def ir141 : PC := .seq (.reg [o 2 (.box (.t 0)), o 3 (.box (.t 1)), o 4 (.mov F)]) (.seq (.seq (.reg [o 5 (.faddr 0 (.t 2)), l 6 5, o 7 (.faddr 0 (.t 3)), l 8 7, o 9 (.bin .neq (.t
 6) (.t 8))]) (.cond (.t 9) (.seq (.reg [o 4 (.mov F)]) (.ret)) (.skip))) (.seq (.seq (.reg [o 10 (.faddr 1 (.t 2)), l 11 10, o 12 (.faddr 1 (.t 3)), l 13 12, o 14 (.call 88 [.t 11,
 .t 13]), o 15 (.un .not (.t 14))]) (.cond (.t 15) (.seq (.reg [o 4 (.mov F)]) (.ret)) (.skip))) (.seq (.reg [o 4 (.mov T)]) (.ret))))
theorem ok141 : chkFn Tryz.prog 141 ir141 2 [.t 4] = true := by kernel_rfl
def ir89 : PC := .seq (.reg [o 4 (.mov F)]) (.seq (.seq (.reg [m 6 0, o 7 (.len (.t 6)), m 8 1, o 9 (.len (.t 8)), o 10 (.bin .neq (.t 7) (.t 9))]) (.cond (.t 10) (.seq (.reg [o 4
 (.mov F)]) (.ret)) (.skip))) (.seq (.seq (.reg [o 5 (.mov (i 0))]) (.block 0 (.loop (.ghost (.seq (.seq (.reg [m 11 5, m 12 0, o 13 (.len (.t 12)), o 14 (.bin .lss (.t 11) (.t
 13))]) (.cond (.t 14) (.skip) (.exit 0))) (.seq (.block 1 (.seq (.draw [m 17 0, m 18 5, o 19 (.iaddr 2 (.t 17) (.t 18)), o 20 (.load true 2 (.t 19)), m 21 1, m 22 5, o 23 (.iaddr 2
 (.t 21) (.t 22)), o 24 (.load true 2 (.t 23))] [o 25 (.call 141 [.t 20, .t 24]), o 26 (.un .not (.t 25))]) (.cond (.t 26) (.seq (.reg [o 4 (.mov F)]) (.ret)) (.skip)))) (.reg [m 15
 5, o 16 (.bin .add (.t 15) (i 1)), m 5 16]))))))) (.seq (.reg [o 4 (.mov T)]) (.ret))))
theorem ok89 : chkFn Tryz.prog 89 ir89 2 [.t 4] = true := by kernel_rfl
def ir44 : PC := .seq (.reg [o 2 (.box (.t 0)), o 3 (.box (.t 1)), o 4 (.mov F)]) (.seq (.seq (.reg [o 5 (.faddr 0 (.t 2)), l 6 5, o 7 (.faddr 0 (.t 3)), l 8 7, o 9 (.bin .neq (.t
 6) (.t 8))]) (.cond (.t 9) (.seq (.reg [o 4 (.mov F)]) (.ret)) (.skip))) (.seq (.seq (.reg [o 10 (.faddr 1 (.t 2)), l 11 10, o 12 (.faddr 1 (.t 3)), l 13 12, o 14 (.call 88 [.t 11,
 .t 13]), o 15 (.un .not (.t 14))]) (.cond (.t 15) (.seq (.reg [o 4 (.mov F)]) (.ret)) (.skip))) (.seq (.seq (.reg [o 16 (.faddr 2 (.t 2)), l 17 16, o 18 (.faddr 2 (.t 3)), l 19 18,
 o 20 (.call 89 [.t 17, .t 19]), o 21 (.un .not (.t 20))]) (.cond (.t 21) (.seq (.reg [o 4 (.mov F)]) (.ret)) (.skip))) (.seq (.reg [o 4 (.mov T)]) (.ret)))))
theorem ok44 : chkFn Tryz.prog 44 ir44 2 [.t 4] = true := by kernel_rfl
end Go.Proofs
end
section
set_option maxRecDepth 100000
namespace Go.Proofs
open Go.PW Go.PW.I
def ir158 : PC := .seq (.reg [o 2 (.mov F)]) (.seq (.seq (.reg [m 4 0, o 5 (.lens (.t 4)), o 6 (.mn (.t 5) (i 25)), o 7 (.mov (i 0))]) (.block 0 (.loop (.ghost (.seq (.reg [o 8
 (.bin .lss (.t 7) (.t 6))]) (.seq (.cond (.t 8) (.skip) (.exit 0)) (.seq (.block 1 (.seq (.reg [m 9 7, m 3 9]) (.seq (.reg [m 10 0, m 11 3, o 12 (.idx (.t 10) (.t 11)), o 13 (.call
 196 [.t 12]), o 14 (.un .not (.t 13)), m 15 14, g 16 15 true (.mov (.t 0)), g 17 15 true (.mov (.t 3)), g 18 15 true (.idx (.t 16) (.t 17)), g 19 15 true (.bin .neq (.t 18) (.k
 (.val (.int .u8 45)))), g 20 15 true (.mov (.t 19)), g 21 20 false (.mov (.t 3)), g 22 20 false (.bin .eql (.t 21) (i 0)), g 23 15 true (.pick (.t 20) T (.t 22)), o 24 (.pick (.t
 15) (.t 23) F)]) (.cond (.t 24) (.seq (.reg [o 2 (.mov F)]) (.ret)) (.skip))))) (.reg [o 25 (.bin .add (.t 7) (i 1)), m 7 25])))))))) (.seq (.reg [m 26 0, o 27 (.lens (.t 26)), o
 28 (.call 60 [.t 27, .k (.val (.int .i64 1)), .k (.val (.int .i64 24))]), m 2 28]) (.ret)))
theorem ok158 : chkFn Tryz.prog 158 ir158 1 [.t 2] = true := by kernel_rfl
def ir203 : PC := .seq (.reg [o 4 (.mov (i 0))]) (.seq (.seq (.reg [m 6 0, o 7 (.len (.t 6)), o 8 (.mov (i 0))]) (.block 0 (.loop (.ghost (.seq (.reg [o 9 (.bin .lss (.t 8) (.t
 7))]) (.seq (.cond (.t 9) (.skip) (.exit 0)) (.seq (.block 1 (.seq (.reg [m 10 8, m 5 10]) (.seq (.reg [m 11 1, m 12 0, m 13 5, o 14 (.iaddr 1 (.t 12) (.t 13)), l 15 14, o 16 (.bin
 .eql (.t 11) (.t 15))]) (.cond (.t 16) (.seq (.reg [m 17 5, m 4 17]) (.ret)) (.skip))))) (.reg [o 18 (.bin .add (.t 8) (i 1)), m 8 18])))))))) (.seq (.reg [o 4 (.mov (i (-1)))])
 (.ret)))
theorem ok203 : chkFn Tryz.prog 203 ir203 2 [.t 4] = true := by kernel_rfl
def ir165 : PC := .seq (.reg [o 4 (.mov F)]) (.seq (.reg [m 5 0, m 6 1, o 7 (.call 203 [.t 5, .t 6]), o 8 (.bin .geq (.t 7) (i 0)), m 4 8]) (.ret))
theorem ok165 : chkFn Tryz.prog 165 ir165 2 [.t 4] = true := by kernel_rfl
def ir125 : PC := .seq (.reg [o 4 (.mov F)]) (.seq (.seq (.reg [m 6 0, o 7 (.len (.t 6)), m 8 1, o 9 (.len (.t 8)), o 10 (.bin .neq (.t 7) (.t 9))]) (.cond (.t 10) (.seq (.reg [o 4
 (.mov F)]) (.ret)) (.skip))) (.seq (.seq (.reg [m 11 0, o 12 (.len (.t 11)), o 13 (.mov (i 0))]) (.block 0 (.loop (.ghost (.seq (.reg [o 14 (.bin .lss (.t 13) (.t 12))]) (.seq
 (.cond (.t 14) (.skip) (.exit 0)) (.seq (.block 1 (.seq (.reg [m 15 13, m 5 15]) (.seq (.draw [m 16 0, m 17 5, o 18 (.iaddr 1 (.t 16) (.t 17)), l 19 18, m 20 1, m 21 5, o 22
 (.iaddr 1 (.t 20) (.t 21)), l 23 22] [o 24 (.bin .neq (.t 19) (.t 23))]) (.cond (.t 24) (.seq (.reg [o 4 (.mov F)]) (.ret)) (.skip))))) (.reg [o 25 (.bin .add (.t 13) (i 1)), m 13
 25])))))))) (.seq (.reg [o 4 (.mov T)]) (.ret))))
theorem ok125 : chkFn Tryz.prog 125 ir125 2 [.t 4] = true := by kernel_rfl
def ir197 : PC := .seq (.reg [o 4 (.mov (i 0))]) (.seq (.seq (.reg [m 6 0, o 7 (.len (.t 6)), o 8 (.mov (i 0))]) (.block 0 (.loop (.ghost (.seq (.reg [o 9 (.bin .lss (.t 8) (.t
 7))]) (.seq (.cond (.t 9) (.skip) (.exit 0)) (.seq (.block 1 (.seq (.reg [m 10 8, m 5 10]) (.seq (.reg [m 11 1, m 12 0, m 13 5, o 14 (.iaddr 1 (.t 12) (.t 13)), l 15 14, o 16
 (.callv (.t 11) [.t 15])]) (.cond (.t 16) (.seq (.reg [m 17 5, m 4 17]) (.ret)) (.skip))))) (.reg [o 18 (.bin .add (.t 8) (i 1)), m 8 18])))))))) (.seq (.reg [o 4 (.mov (i (-1)))])
 (.ret)))
theorem ok197 : chkFn Tryz.prog 197 ir197 2 [.t 4] = true := by kernel_rfl
def ir159 : PC := .seq (.reg [o 4 (.mov F)]) (.seq (.reg [m 5 0, m 6 1, o 7 (.call 197 [.t 5, .t 6]), o 8 (.bin .geq (.t 7) (i 0)), m 4 8]) (.ret))
theorem ok159 : chkFn Tryz.prog 159 ir159 2 [.t 4] = true := by kernel_rfl
def ir162 : PC := .seq (.reg [o 4 (.mov (i 0))]) (.seq (.seq (.reg [m 6 0, o 7 (.len (.t 6)), o 8 (.mov (i 0))]) (.block 0 (.loop (.ghost (.seq (.reg [o 9 (.bin .lss (.t 8) (.t
 7))]) (.seq (.cond (.t 9) (.skip) (.exit 0)) (.seq (.block 1 (.seq (.reg [m 10 8, m 5 10]) (.seq (.reg [m 11 1, m 12 0, m 13 5, o 14 (.iaddr 2 (.t 12) (.t 13)), o 15 (.load true 2
 (.t 14)), o 16 (.callv (.t 11) [.t 15])]) (.cond (.t 16) (.seq (.reg [m 17 5, m 4 17]) (.ret)) (.skip))))) (.reg [o 18 (.bin .add (.t 8) (i 1)), m 8 18])))))))) (.seq (.reg [o 4
 (.mov (i (-1)))]) (.ret)))
theorem ok162 : chkFn Tryz.prog 162 ir162 2 [.t 4] = true := by kernel_rfl
def ir122 : PC := .seq (.reg [o 4 (.mov F)]) (.seq (.reg [m 5 0, m 6 1, o 7 (.call 162 [.t 5, .t 6]), o 8 (.bin .geq (.t 7) (i 0)), m 4 8]) (.ret))
theorem ok122 : chkFn Tryz.prog 122 ir122 2 [.t 4] = true := by kernel_rfl
def ir160 : PC := .seq (.reg [o 2 (.mov F)]) (.seq (.reg [m 3 0, o 4 (.bin .eql (.t 3) (z #[])), m 5 4, g 6 5 false (.mov (.t 0)), g 7 5 false (.call 161 [.t 6, .k (.val (.str
 ⟨#[32, 9, 59]⟩))]), o 8 (.pick (.t 5) T (.t 7)), m 2 8]) (.ret))
theorem ok160 : chkFn Tryz.prog 160 ir160 1 [.t 2] = true := by kernel_rfl
def ir121 : PC := .seq (.reg [o 1 (.box (.t 0)), o 2 (.mov F)]) (.seq (.reg [o 3 (.faddr 0 (.t 1)), l 4 3, o 5 (.call 158 [.t 4]), m 6 5, g 7 6 true (.faddr 1 (.t 1)), g 8 6 true
 (.load false 1 (.t 7)), g 9 6 true (.len (.t 8)), g 10 6 true (.bin .leq (.t 9) (i 8)), o 11 (.pick (.t 6) (.t 10) F), m 12 11, g 13 12 true (.faddr 1 (.t 1)), g 14 12 true (.load
 false 1 (.t 13)), g 15 12 true (.call 159 [.t 14, .k (.fn 160 [])]), g 16 12 true (.un .not (.t 15)), o 17 (.pick (.t 12) (.t 16) F), m 2 17]) (.ret))
theorem ok121 : chkFn Tryz.prog 121 ir121 1 [.t 2] = true := by kernel_rfl
def ir199 : PC := .seq (.reg [o 2 (.box (.t 0)), o 3 (.mov F)]) (.seq (.reg [o 4 (.faddr 0 (.t 2)), l 5 4, l 6 1, o 7 (.bin .eql (.t 5) (.t 6)), m 3 7]) (.ret))
theorem ok199 : chkFn Tryz.prog 199 ir199 2 [.t 3] = true := by kernel_rfl
def ir163 : PC := .seq (.reg [o 2 (.box (.t 0)), o 3 (.box (.t 1)), o 4 (.mov (.k (.emp 1)))]) (.seq (.reg [o 6 (.faddr 2 (.t 2)), l 7 6, o 8 (.mkfn 199 [.t 3]), o 9 (.call 162 [.t
 7, .t 8]), m 5 9]) (.seq (.seq (.reg [m 10 5, o 11 (.bin .lss (.t 10) (i 0))]) (.cond (.t 11) (.seq (.reg [o 4 (.mov (.k (.emp 1)))]) (.ret)) (.skip))) (.seq (.reg [o 12 (.faddr 2
 (.t 2)), l 13 12, m 14 5, o 15 (.iaddr 2 (.t 13) (.t 14)), o 16 (.faddr 1 (.t 15)), l 17 16, m 4 17]) (.ret))))
theorem ok163 : chkFn Tryz.prog 163 ir163 2 [.t 4] = true := by kernel_rfl
def ir124_from4 : PC := .seq (.reg [o 58 (.load true 3 (.t 1)), n (.store 3 (.t 2) (.t 58))]) (.ret)
def ir124_from3 : PC := .seq (.seq (.reg [o 25 (.load true 3 (.t 1)), o 26 (.call 163 [.t 25, .k (.val (.str ⟨#[114, 101, 112, 111, 114, 116, 45, 117, 114, 105]⟩))]), o 27 (.len (.t
 26)), o 28 (.mov (i 0))]) (.block 0 (.loop (.ghost (.seq (.reg [o 29 (.bin .lss (.t 28) (.t 27))]) (.seq (.cond (.t 29) (.skip) (.exit 0)) (.seq (.block 1 (.seq (.reg [o 30 (.iaddr
 1 (.t 26) (.t 28)), l 31 30, m 5 31]) (.seq (.reg [m 33 5, o 34 (.call 164 [.t 33]), m 32 34, o 35 (.ext 0 (.t 32)), o 36 (.ext 1 (.t 32)), m 6 35, m 7 36]) (.seq (.reg [m 37 7, m
 38 37, g 39 38 true (.faddr 1 (.t 1)), g 40 38 true (.load false 1 (.t 39)), g 41 38 true (.mov (.t 6)), g 42 38 true (.call 165 [.t 40, .t 41]), g 43 38 true (.un .not (.t 42)), o
 44 (.pick (.t 38) (.t 43) F), m 45 44, g 46 45 true (.faddr 1 (.t 1)), g 47 45 true (.load false 1 (.t 46)), g 48 45 true (.len (.t 47)), g 49 45 true (.bin .lss (.t 48) (i 4)), o
 50 (.pick (.t 45) (.t 49) F)]) (.cond (.t 50) (.reg [o 51 (.faddr 1 (.t 1)), l 52 51, m 53 6, o 54 (.lit 9 1 [.t 53]), o 55 (.app 9 1 16 (.t 52) (.t 54)), o 56 (.faddr 1 (.t 1)), n
 (.store 1 (.t 56) (.t 55))]) (.skip)))))) (.reg [o 57 (.bin .add (.t 28) (i 1)), m 28 57])))))))) (ir124_from4)
def ir124 : PC := .seq (.reg [o 1 (.box (.t 0)), o 2 (.alloc [.val (.str ⟨#[]⟩), .emp 1, .emp 2])]) (.seq (.reg [o 8 (.faddr 0 (.t 1)), n (.store 1 (.t 8) (z #[])), o 9 (.faddr 1
 (.t 1)), n (.store 1 (.t 9) (.k (.emp 1)))]) (.seq (.seq (.reg [o 10 (.load true 3 (.t 1)), o 11 (.call 163 [.t 10, .k (.val (.str ⟨#[114, 101, 112, 111, 114, 116, 45, 116,
 111]⟩))]), m 3 11]) (.seq (.reg [m 12 3, o 13 (.len (.t 12)), o 14 (.bin .gtr (.t 13) (i 0)), m 15 14, g 16 15 true (.mov (.t 3)), g 17 15 true (.iaddr 1 (.t 16) (i 0)), g 18 15
 true (.load false 1 (.t 17)), g 19 15 true (.call 137 [.t 18]), o 20 (.pick (.t 15) (.t 19) F)]) (.cond (.t 20) (.reg [m 21 3, o 22 (.iaddr 1 (.t 21) (i 0)), l 23 22, o 24 (.faddr
 0 (.t 1)), n (.store 1 (.t 24) (.t 23))]) (.skip)))) (ir124_from3)))
theorem ok124 : chkFn Tryz.prog 124 ir124 1 [.c 2 true 3] = true := by kernel_rfl
def ir123 : PC := .seq (.reg [o 2 (.box (.t 0)), o 3 (.mov F)]) (.seq (.reg [o 4 (.faddr 0 (.t 2)), l 5 4, o 6 (.faddr 0 (.t 1)), l 7 6, o 8 (.bin .eql (.t 5) (.t 7)), m 3 8])
 (.ret))
theorem ok123 : chkFn Tryz.prog 123 ir123 2 [.t 3] = true := by kernel_rfl
def ir80_from3 : PC := .seq (.reg [o 30 (.load true 3 (.t 1)), o 31 (.call 124 [.t 30]), o 5 (.alloc [.val (.str ⟨#[]⟩), .emp 1, .emp 2]), n (.store 3 (.t 5) (.t 31))]) (.seq (.reg
 [o 32 (.faddr 0 (.t 5)), l 33 32, o 34 (.faddr 0 (.t 1)), l 35 34, o 36 (.bin .eql (.t 33) (.t 35)), m 37 36, g 38 37 true (.faddr 1 (.t 5)), g 39 37 true (.load false 1 (.t 38)),
 g 40 37 true (.faddr 1 (.t 1)), g 41 37 true (.load false 1 (.t 40)), g 42 37 true (.call 125 [.t 39, .t 41]), o 43 (.pick (.t 37) (.t 42) F), m 2 43]) (.ret))
def ir80 : PC := .seq (.reg [o 1 (.box (.t 0)), o 2 (.mov F)]) (.seq (.seq (.reg [o 6 (.faddr 2 (.t 1)), l 7 6, o 8 (.len (.t 7)), o 9 (.bin .gtr (.t 8) (i 8))]) (.cond (.t 9) (.seq
 (.reg [o 2 (.mov F)]) (.ret)) (.skip))) (.seq (.seq (.reg [o 10 (.faddr 2 (.t 1)), l 11 10, o 12 (.len (.t 11)), o 13 (.mov (i 0))]) (.block 0 (.loop (.ghost (.seq (.reg [o 14
 (.bin .lss (.t 13) (.t 12))]) (.seq (.cond (.t 14) (.skip) (.exit 0)) (.seq (.block 1 (.seq (.reg [m 15 13, o 16 (.iaddr 2 (.t 11) (.t 13)), o 17 (.load true 2 (.t 16)), o 4
 (.alloc [.val (.str ⟨#[]⟩), .emp 1]), m 3 15, n (.store 2 (.t 4) (.t 17))]) (.seq (.reg [o 18 (.load true 2 (.t 4)), o 19 (.call 121 [.t 18]), o 20 (.un .not (.t 19)), m 21 20, g
 22 21 false (.faddr 2 (.t 1)), g 23 21 false (.load false 1 (.t 22)), g 24 21 false (.mov (.t 3)), g 25 21 false (.slc 2 (.t 23) none (some (.t 24))), g 26 21 false (.mkfn 123 [.t
 4]), g 27 21 false (.call 122 [.t 25, .t 26]), o 28 (.pick (.t 21) T (.t 27))]) (.cond (.t 28) (.seq (.reg [o 2 (.mov F)]) (.ret)) (.skip))))) (.reg [o 29 (.bin .add (.t 13) (i
 1)), m 13 29])))))))) (ir80_from3)))
theorem ok80 : chkFn Tryz.prog 80 ir80 1 [.t 2] = true := by kernel_rfl
end Go.Proofs
end
section
set_option maxRecDepth 100000
namespace Go.Proofs
open Go.PW Go.PW.I
def ir144 : PC := .seq (.reg [o 4 (.mov (i 0))]) (.seq (.reg [m 6 1, m 7 0, o 8 (.len (.t 7)), o 9 (.bin .sub (.t 6) (.t 8)), m 1 9]) (.seq (.seq (.reg [m 10 1, o 11 (.bin .lss (.t
 10) (i 0))]) (.cond (.t 11) (.seq (.reg [o 4 (.mov (i (-1)))]) (.ret)) (.skip))) (.seq (.seq (.reg [o 5 (.mov (i 0))]) (.block 0 (.loop (.ghost (.seq (.seq (.reg [m 12 5, m 13 0, o
 14 (.len (.t 13)), o 15 (.bin .lss (.t 12) (.t 14))]) (.cond (.t 15) (.skip) (.exit 0))) (.seq (.block 1 (.seq (.reg [m 18 0, m 19 5, o 20 (.iaddr 3 (.t 18) (.t 19)), o 21 (.load
 true 3 (.t 20)), m 22 1, o 23 (.call 189 [.t 21, .t 22]), m 1 23]) (.seq (.reg [m 24 1, o 25 (.bin .lss (.t 24) (i 0))]) (.cond (.t 25) (.seq (.reg [o 4 (.mov (i (-1)))]) (.ret))
 (.skip))))) (.reg [m 16 5, o 17 (.bin .add (.t 16) (i 1)), m 5 17]))))))) (.seq (.reg [m 26 1, m 4 26]) (.ret)))))
theorem ok144 : chkFn Tryz.prog 144 ir144 2 [.t 4] = true := by kernel_rfl
def ir155 : PC := .seq (.reg [o 2 (.mov (.k (.emp 3)))]) (.seq (.reg [m 5 0, o 6 (.len (.t 5)), o 7 (.mks 162 3 32 true [.val (.str ⟨#[]⟩), .val (.int .i64 0), .val (.int .i64 0)]
 (.t 6)), m 3 7]) (.seq (.seq (.reg [o 4 (.mov (i 0))]) (.block 0 (.loop (.ghost (.seq (.seq (.reg [m 8 4, m 9 0, o 10 (.len (.t 9)), o 11 (.bin .lss (.t 8) (.t 10))]) (.cond (.t
 11) (.skip) (.exit 0))) (.seq (.block 1 (.reg [m 14 3, m 15 4, m 16 0, m 17 4, o 18 (.iaddr 3 (.t 16) (.t 17)), o 19 (.load true 3 (.t 18)), o 20 (.call 194 [.t 19]), o 21 (.iaddr
 3 (.t 14) (.t 15)), n (.store 3 (.t 21) (.t 20))])) (.reg [m 12 4, o 13 (.bin .add (.t 12) (i 1)), m 4 13]))))))) (.seq (.reg [m 22 3, m 2 22]) (.ret))))
theorem ok155 : chkFn Tryz.prog 155 ir155 1 [.t 2] = true := by kernel_rfl
def ir175 : PC := .seq (.reg [o 4 (.mov F)]) (.seq (.seq (.reg [m 6 0, o 7 (.len (.t 6)), m 8 1, o 9 (.len (.t 8)), o 10 (.bin .neq (.t 7) (.t 9))]) (.cond (.t 10) (.seq (.reg [o 4
 (.mov F)]) (.ret)) (.skip))) (.seq (.seq (.reg [o 5 (.mov (i 0))]) (.block 0 (.loop (.ghost (.seq (.seq (.reg [m 11 5, m 12 0, o 13 (.len (.t 12)), o 14 (.bin .lss (.t 11) (.t
 13))]) (.cond (.t 14) (.skip) (.exit 0))) (.seq (.block 1 (.seq (.draw [m 17 0, m 18 5, o 19 (.iaddr 3 (.t 17) (.t 18)), o 20 (.load true 3 (.t 19)), m 21 1, m 22 5, o 23 (.iaddr 3
 (.t 21) (.t 22)), o 24 (.load true 3 (.t 23))] [o 25 (.call 207 [.t 20, .t 24]), o 26 (.un .not (.t 25))]) (.cond (.t 26) (.seq (.reg [o 4 (.mov F)]) (.ret)) (.skip)))) (.reg [m 15
 5, o 16 (.bin .add (.t 15) (i 1)), m 5 16]))))))) (.seq (.reg [o 4 (.mov T)]) (.ret))))
theorem ok175 : chkFn Tryz.prog 175 ir175 2 [.t 4] = true := by kernel_rfl
def ir102 : PC := .seq (.reg [o 2 (.box (.t 0)), o 4 (.mov (i 0))]) (.seq (.reg [m 5 1, o 6 (.faddr 0 (.t 2)), l 7 6, o 8 (.lens (.t 7)), o 9 (.bin .sub (.t 5) (.t 8)), m 1 9])
 (.seq (.seq (.reg [m 10 1, o 11 (.bin .lss (.t 10) (i 0))]) (.cond (.t 11) (.seq (.reg [o 4 (.mov (i (-1)))]) (.ret)) (.skip))) (.seq (.reg [o 12 (.faddr 2 (.t 2)), l 13 12, m 14
 1, o 15 (.call 144 [.t 13, .t 14]), m 1 15]) (.seq (.seq (.reg [m 16 1, o 17 (.bin .lss (.t 16) (i 0))]) (.cond (.t 17) (.seq (.reg [o 4 (.mov (i (-1)))]) (.ret)) (.skip))) (.seq
 (.reg [m 18 1, m 4 18]) (.ret))))))
theorem ok102 : chkFn Tryz.prog 102 ir102 2 [.t 4] = true := by kernel_rfl
def ir116 : PC := .seq (.reg [o 1 (.box (.t 0)), o 2 (.alloc [.val (.str ⟨#[]⟩), .val (.int .i64 0), .emp 3])]) (.seq (.reg [o 3 (.alloc [.val (.str ⟨#[]⟩), .val (.int .i64 0), .emp
 3])]) (.seq (.reg [o 4 (.faddr 0 (.t 1)), l 5 4, o 6 (.faddr 0 (.t 3)), n (.store 1 (.t 6) (.t 5))]) (.seq (.reg [o 7 (.faddr 1 (.t 1)), l 8 7, o 9 (.faddr 1 (.t 3)), n (.store 1
 (.t 9) (.t 8))]) (.seq (.reg [o 10 (.faddr 2 (.t 1)), l 11 10, o 12 (.call 155 [.t 11]), o 13 (.faddr 2 (.t 3)), n (.store 1 (.t 13) (.t 12))]) (.seq (.reg [o 14 (.load true 3 (.t
 3)), n (.store 3 (.t 2) (.t 14))]) (.ret))))))
theorem ok116 : chkFn Tryz.prog 116 ir116 1 [.c 2 true 3] = true := by kernel_rfl
def ir138 : PC := .seq (.reg [o 2 (.box (.t 0)), o 3 (.box (.t 1)), o 4 (.mov F)]) (.seq (.seq (.reg [o 5 (.faddr 0 (.t 2)), l 6 5, o 7 (.faddr 0 (.t 3)), l 8 7, o 9 (.bin .neq (.t
 6) (.t 8))]) (.cond (.t 9) (.seq (.reg [o 4 (.mov F)]) (.ret)) (.skip))) (.seq (.seq (.reg [o 10 (.faddr 1 (.t 2)), l 11 10, o 12 (.faddr 1 (.t 3)), l 13 12, o 14 (.bin .neq (.t
 11) (.t 13))]) (.cond (.t 14) (.seq (.reg [o 4 (.mov F)]) (.ret)) (.skip))) (.seq (.seq (.reg [o 15 (.faddr 2 (.t 2)), l 16 15, o 17 (.faddr 2 (.t 3)), l 18 17, o 19 (.call 175 [.t
 16, .t 18]), o 20 (.un .not (.t 19))]) (.cond (.t 20) (.seq (.reg [o 4 (.mov F)]) (.ret)) (.skip))) (.seq (.reg [o 4 (.mov T)]) (.ret)))))
theorem ok138 : chkFn Tryz.prog 138 ir138 2 [.t 4] = true := by kernel_rfl
end Go.Proofs
end
