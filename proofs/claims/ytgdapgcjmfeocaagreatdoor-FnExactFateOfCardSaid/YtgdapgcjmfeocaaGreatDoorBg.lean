/- Bg: merged out of IRaa, IRbb. -/
import Derived.Test.YtgdapgcjmfeocaaGreatDoorPWv
import Derived.Test.YtgdapgcjmfeocaaGreatDoorChecked
import Derived.KernelRfl
section
set_option maxRecDepth 100000
namespace Go.Proofs
open Go.PW Go.PW.I
def ir173 : PC := .seq (.reg [o 2 (.mov F)]) (.seq (.reg [m 3 0, o 4 (.lens (.t 3)), o 5 (.call 60 [.t 4, .k (.val (.int .i64 1)), .k (.val (.int .i64 8000))]), m 2 5]) (.ret))
theorem ok173 : chkFn Tryz.prog 173 ir173 1 [.t 2] = true := by kernel_rfl
def ir172 : PC := .seq (.reg [o 1 (.box (.t 0)), o 2 (.mov F)]) (.seq (.reg [o 3 (.faddr 0 (.t 1)), l 4 3, o 5 (.call 60 [.t 4, .k (.val (.int .i64 1)), .k (.val (.int .i64
 1000000))]), m 6 5, g 7 6 true (.faddr 1 (.t 1)), g 8 6 true (.load false 1 (.t 7)), g 9 6 true (.call 60 [.t 8, .k (.val (.int .i64 0)), .k (.val (.int .i64 1000000))]), o 10
 (.pick (.t 6) (.t 9) F), m 11 10, g 12 11 true (.faddr 2 (.t 1)), g 13 11 true (.load false 1 (.t 12)), g 14 11 true (.call 60 [.t 13, .k (.val (.int .i64 0)), .k (.val (.int .i64
 3))]), o 15 (.pick (.t 11) (.t 14) F), m 16 15, g 17 16 true (.faddr 3 (.t 1)), g 18 16 true (.load false 1 (.t 17)), g 19 16 true (.call 173 [.t 18]), o 20 (.pick (.t 16) (.t 19)
 F), m 2 20]) (.ret))
theorem ok172 : chkFn Tryz.prog 172 ir172 1 [.t 2] = true := by kernel_rfl
def ir130 : PC := .seq (.reg [o 1 (.box (.t 0)), o 2 (.mov F)]) (.seq (.seq (.reg [o 7 (.faddr 0 (.t 1)), l 8 7, o 9 (.len (.t 8)), o 10 (.bin .gtr (.t 9) (i 5)), m 11 10, g 12 11
 false (.faddr 1 (.t 1)), g 13 11 false (.load false 1 (.t 12)), g 14 11 false (.len (.t 13)), g 15 11 false (.bin .gtr (.t 14) (i 6)), o 16 (.pick (.t 11) T (.t 15))]) (.cond (.t
 16) (.seq (.reg [o 2 (.mov F)]) (.ret)) (.skip))) (.seq (.seq (.reg [o 17 (.faddr 0 (.t 1)), l 18 17, o 19 (.len (.t 18)), o 20 (.mov (i 0))]) (.block 0 (.loop (.ghost (.seq (.reg
 [o 21 (.bin .lss (.t 20) (.t 19))]) (.seq (.cond (.t 21) (.skip) (.exit 0)) (.seq (.block 1 (.seq (.reg [m 22 20, o 23 (.iaddr 4 (.t 18) (.t 20)), o 24 (.load true 4 (.t 23)), o 4
 (.alloc [.val (.int .i64 0), .val (.int .i64 0), .val (.int .i64 0), .val (.str ⟨#[]⟩)]), m 3 22, n (.store 4 (.t 4) (.t 24))]) (.seq (.draw [o 25 (.load true 4 (.t 4)), o 26
 (.call 172 [.t 25]), o 27 (.un .not (.t 26)), m 28 27, g 29 28 false (.mov (.t 3)), g 30 28 false (.bin .gtr (.t 29) (i 0)), g 31 28 false (.mov (.t 30)), g 32 31 true (.faddr 0
 (.t 4)), g 33 31 true (.load false 1 (.t 32)), g 34 31 true (.faddr 0 (.t 1)), g 35 31 true (.load false 1 (.t 34)), g 36 31 true (.mov (.t 3)), g 37 31 true (.bin .sub (.t 36) (i
 1)), g 38 31 true (.iaddr 4 (.t 35) (.t 37)), g 39 31 true (.faddr 0 (.t 38)), g 40 31 true (.load false 1 (.t 39)), g 41 31 true (.bin .leq (.t 33) (.t 40)), g 42 31 true (.mov
 (.t 41)), g 43 42 false (.faddr 1 (.t 4)), g 44 42 false (.load false 1 (.t 43)), g 45 42 false (.faddr 0 (.t 1)), g 46 42 false (.load false 1 (.t 45)), g 47 42 false (.mov (.t
 3)), g 48 42 false (.bin .sub (.t 47) (i 1)), g 49 42 false (.iaddr 4 (.t 46) (.t 48)), g 50 42 false (.faddr 1 (.t 49)), g 51 42 false (.load false 1 (.t 50)), g 52 42 false (.bin
 .lss (.t 44) (.t 51)), g 53 31 true (.pick (.t 42) T (.t 52)), g 54 28 false (.pick (.t 31) (.t 53) F), o 55 (.pick (.t 28) T (.t 54))] []) (.cond (.t 55) (.seq (.reg [o 2 (.mov
 F)]) (.ret)) (.skip))))) (.reg [o 56 (.bin .add (.t 20) (i 1)), m 20 56])))))))) (.seq (.seq (.reg [o 57 (.faddr 1 (.t 1)), l 58 57, o 59 (.len (.t 58)), o 60 (.mov (i 0))])
 (.block 2 (.loop (.ghost (.seq (.reg [o 61 (.bin .lss (.t 60) (.t 59))]) (.seq (.cond (.t 61) (.skip) (.exit 2)) (.seq (.block 3 (.seq (.reg [m 62 60, o 63 (.iaddr 1 (.t 58) (.t
 60)), l 64 63, m 5 62, m 6 64]) (.seq (.reg [m 65 6, o 66 (.call 173 [.t 65]), o 67 (.un .not (.t 66)), m 68 67, g 69 68 false (.faddr 1 (.t 1)), g 70 68 false (.load false 1 (.t
 69)), g 71 68 false (.mov (.t 5)), g 72 68 false (.slc 1 (.t 70) none (some (.t 71))), g 73 68 false (.mov (.t 6)), g 74 68 false (.call 165 [.t 72, .t 73]), o 75 (.pick (.t 68) T
 (.t 74))]) (.cond (.t 75) (.seq (.reg [o 2 (.mov F)]) (.ret)) (.skip))))) (.reg [o 76 (.bin .add (.t 60) (i 1)), m 60 76])))))))) (.seq (.reg [o 2 (.mov T)]) (.ret)))))
theorem ok130 : chkFn Tryz.prog 130 ir130 1 [.t 2] = true := by kernel_rfl
def ir132 : PC := .seq (.reg [o 2 (.box (.t 0)), o 3 (.mov F)]) (.seq (.reg [o 4 (.faddr 0 (.t 2)), l 5 4, o 6 (.faddr 5 (.t 1)), l 7 6, o 8 (.bin .geq (.t 5) (.t 7)), m 9 8, g 10 9
 false (.faddr 1 (.t 2)), g 11 9 false (.load false 1 (.t 10)), g 12 9 false (.faddr 4 (.t 1)), g 13 9 false (.load false 1 (.t 12)), g 14 9 false (.bin .gtr (.t 11) (.t 13)), o 15
 (.pick (.t 9) T (.t 14)), m 3 15]) (.ret))
theorem ok132 : chkFn Tryz.prog 132 ir132 2 [.t 3] = true := by kernel_rfl
def ir82 : PC := .seq (.reg [o 2 (.box (.t 0)), o 3 (.box (.t 1)), o 4 (.mov F)]) (.seq (.seq (.draw [o 5 (.faddr 0 (.t 3)), o 6 (.load true 3 (.t 5)), o 7 (.call 126 [.t 6]), o 8
 (.un .not (.t 7)), m 9 8, g 10 9 false (.faddr 3 (.t 3)), g 11 9 false (.load false 1 (.t 10)), g 12 9 false (.call 127 [.t 11]), g 13 9 false (.un .not (.t 12)), o 14 (.pick (.t
 9) T (.t 13)), m 15 14, g 16 15 false (.faddr 3 (.t 3)), g 17 15 false (.load false 1 (.t 16)), g 18 15 false (.call 129 [.t 17]), g 19 15 false (.faddr 0 (.t 3)), g 20 15 false
 (.faddr 2 (.t 19)), g 21 15 false (.load false 1 (.t 20)), g 22 15 false (.call 128 [.t 18, .t 21]), g 23 15 false (.un .not (.t 22)), o 24 (.pick (.t 15) T (.t 23)), m 25 24, g 26
 25 false (.faddr 4 (.t 3)), g 27 25 false (.load true 2 (.t 26)), g 28 25 false (.call 130 [.t 27]), g 29 25 false (.un .not (.t 28)), o 30 (.pick (.t 25) T (.t 29))] []) (.cond
 (.t 30) (.seq (.reg [o 4 (.mov F)]) (.ret)) (.skip))) (.seq (.reg [o 31 (.faddr 4 (.t 3)), o 32 (.faddr 0 (.t 31)), l 33 32, o 34 (.mkfn 132 [.t 2]), o 35 (.call 131 [.t 33, .t
 34]), o 36 (.un .not (.t 35)), m 4 36]) (.ret)))
theorem ok82 : chkFn Tryz.prog 82 ir82 2 [.t 4] = true := by kernel_rfl
def ir136 : PC := .seq (.reg [o 2 (.mov F)]) (.seq (.reg [m 3 0, o 4 (.call 60 [.t 3, .k (.val (.int .i64 100)), .k (.val (.int .i64 599))]), m 2 4]) (.ret))
theorem ok136 : chkFn Tryz.prog 136 ir136 1 [.t 2] = true := by kernel_rfl
def ir86 : PC := .seq (.reg [o 2 (.box (.t 0)), o 3 (.box (.t 1)), o 4 (.mov F)]) (.seq (.seq (.reg [o 7 (.faddr 0 (.t 3)), l 8 7, o 9 (.faddr 4 (.t 2)), l 10 9, o 11 (.call 60 [.t
 8, .k (.val (.int .i64 0)), .t 10]), o 12 (.un .not (.t 11)), m 13 12, g 14 13 false (.faddr 1 (.t 3)), g 15 13 false (.load false 1 (.t 14)), g 16 13 false (.call 136 [.t 15]), g
 17 13 false (.un .not (.t 16)), o 18 (.pick (.t 13) T (.t 17)), m 19 18, g 20 19 false (.faddr 2 (.t 3)), g 21 19 false (.load false 1 (.t 20)), g 22 19 false (.call 137 [.t 21]),
 g 23 19 false (.un .not (.t 22)), o 24 (.pick (.t 19) T (.t 23)), m 25 24, g 26 25 false (.faddr 3 (.t 3)), g 27 25 false (.load false 1 (.t 26)), g 28 25 false (.lens (.t 27)), g
 29 25 false (.bin .gtr (.t 28) (i 100)), o 30 (.pick (.t 25) T (.t 29)), m 31 30, g 32 31 false (.faddr 4 (.t 3)), g 33 31 false (.load false 1 (.t 32)), g 34 31 false (.len (.t
 33)), g 35 31 false (.call 60 [.t 34, .k (.val (.int .i64 1)), .k (.val (.int .i64 3))]), g 36 31 false (.un .not (.t 35)), o 37 (.pick (.t 31) T (.t 36)), m 38 37, g 39 38 false
 (.faddr 5 (.t 3)), g 40 38 false (.load false 1 (.t 39)), g 41 38 false (.lens (.t 40)), g 42 38 false (.bin .gtr (.t 41) (i 65536)), o 43 (.pick (.t 38) T (.t 42))]) (.cond (.t
 43) (.seq (.reg [o 4 (.mov F)]) (.ret)) (.skip))) (.seq (.seq (.reg [o 44 (.faddr 4 (.t 3)), l 45 44, o 46 (.len (.t 45)), o 47 (.mov (i 0))]) (.block 0 (.loop (.ghost (.seq (.reg
 [o 48 (.bin .lss (.t 47) (.t 46))]) (.seq (.cond (.t 48) (.skip) (.exit 0)) (.seq (.block 1 (.seq (.reg [m 49 47, o 50 (.iaddr 1 (.t 45) (.t 47)), l 51 50, m 5 49, m 6 51]) (.seq
 (.reg [m 52 6, o 53 (.faddr 5 (.t 2)), l 54 53, o 55 (.bin .sub (.t 54) (i 1)), o 56 (.call 60 [.t 52, .k (.val (.int .i64 1)), .t 55]), o 57 (.un .not (.t 56)), m 58 57, g 59 58
 false (.mov (.t 5)), g 60 58 false (.bin .gtr (.t 59) (i 0)), g 61 58 false (.mov (.t 60)), g 62 61 true (.mov (.t 6)), g 63 61 true (.faddr 4 (.t 3)), g 64 61 true (.load false 1
 (.t 63)), g 65 61 true (.mov (.t 5)), g 66 61 true (.bin .sub (.t 65) (i 1)), g 67 61 true (.iaddr 1 (.t 64) (.t 66)), g 68 61 true (.load false 1 (.t 67)), g 69 61 true (.bin .leq
 (.t 62) (.t 68)), g 70 58 false (.pick (.t 61) (.t 69) F), o 71 (.pick (.t 58) T (.t 70))]) (.cond (.t 71) (.seq (.reg [o 4 (.mov F)]) (.ret)) (.skip))))) (.reg [o 72 (.bin .add
 (.t 47) (i 1)), m 47 72])))))))) (.seq (.reg [o 4 (.mov T)]) (.ret))))
theorem ok86 : chkFn Tryz.prog 86 ir86 2 [.t 4] = true := by kernel_rfl
def ir134 : PC := .seq (.reg [o 2 (.box (.t 0)), o 3 (.mov F)]) (.seq (.reg [o 4 (.faddr 0 (.t 2)), o 5 (.faddr 0 (.t 4)), l 6 5, l 7 1, o 8 (.bin .eql (.t 6) (.t 7)), m 3 8])
 (.ret))
theorem ok134 : chkFn Tryz.prog 134 ir134 2 [.t 3] = true := by kernel_rfl
def ir83 : PC := .seq (.reg [o 2 (.box (.t 0)), o 3 (.box (.t 1)), o 4 (.mov (i 0))]) (.seq (.reg [o 5 (.faddr 0 (.t 2)), l 6 5, o 7 (.mkfn 134 [.t 3]), o 8 (.call 133 [.t 6, .t
 7]), m 4 8]) (.ret))
theorem ok83 : chkFn Tryz.prog 83 ir83 2 [.t 4] = true := by kernel_rfl
def ir85 : PC := .seq (.reg [o 2 (.box (.t 0)), o 3 (.mov F)]) (.seq (.reg [o 4 (.load true 8 (.t 1)), o 5 (.load true 7 (.t 2)), o 6 (.call 86 [.t 4, .t 5]), o 7 (.un .not (.t 6)),
 m 3 7]) (.ret))
theorem ok85 : chkFn Tryz.prog 85 ir85 2 [.t 3] = true := by kernel_rfl
def ir41 : PC := .seq (.reg [o 1 (.box (.t 0)), o 2 (.mov F)]) (.seq (.seq (.reg [o 8 (.faddr 0 (.t 1)), l 9 8, o 10 (.len (.t 9)), o 11 (.bin .gtr (.t 10) (i 5)), m 12 11, g 13 12
 false (.faddr 1 (.t 1)), g 14 12 false (.load true 3 (.t 13)), g 15 12 false (.call 80 [.t 14]), g 16 12 false (.un .not (.t 15)), o 17 (.pick (.t 12) T (.t 16)), m 18 17, g 19 18
 false (.faddr 4 (.t 1)), g 20 18 false (.load false 1 (.t 19)), g 21 18 false (.call 81 [.t 20]), g 22 18 false (.un .not (.t 21)), o 23 (.pick (.t 18) T (.t 22)), m 24 23, g 25 24
 false (.faddr 5 (.t 1)), g 26 24 false (.load false 1 (.t 25)), g 27 24 false (.call 60 [.t 26, .k (.val (.int .i64 1)), .k (.val (.int .i64 1000000))]), g 28 24 false (.un .not
 (.t 27)), o 29 (.pick (.t 24) T (.t 28)), m 30 29, g 31 30 false (.faddr 6 (.t 1)), g 32 30 false (.load false 1 (.t 31)), g 33 30 false (.len (.t 32)), g 34 30 false (.bin .gtr
 (.t 33) (i 4096)), o 35 (.pick (.t 30) T (.t 34)), m 36 35, g 37 36 false (.faddr 7 (.t 1)), g 38 36 false (.load false 1 (.t 37)), g 39 36 false (.len (.t 38)), g 40 36 false
 (.bin .gtr (.t 39) (i 4096)), o 41 (.pick (.t 36) T (.t 40))]) (.cond (.t 41) (.seq (.reg [o 2 (.mov F)]) (.ret)) (.skip))) (.seq (.seq (.reg [o 42 (.faddr 0 (.t 1)), l 43 42, o 44
 (.len (.t 43)), o 45 (.mov (i 0))]) (.block 0 (.loop (.ghost (.seq (.reg [o 46 (.bin .lss (.t 45) (.t 44))]) (.seq (.cond (.t 46) (.skip) (.exit 0)) (.seq (.block 1 (.seq (.reg [m
 47 45, o 48 (.iaddr 6 (.t 43) (.t 45)), o 49 (.load true 6 (.t 48)), o 4 (.alloc [.val (.str ⟨#[]⟩), .val (.int .i64 0), .emp 3, .emp 6, .emp 4, .emp 1]), m 3 47, n (.store 6 (.t
 4) (.t 49))]) (.seq (.reg [o 50 (.load true 8 (.t 1)), o 51 (.load true 6 (.t 4)), o 52 (.call 82 [.t 50, .t 51]), o 53 (.un .not (.t 52)), m 54 53, g 55 54 false (.load true 8 (.t
 1)), g 56 54 false (.faddr 0 (.t 4)), g 57 54 false (.faddr 0 (.t 56)), g 58 54 false (.load false 1 (.t 57)), g 59 54 false (.call 83 [.t 55, .t 58]), g 60 54 false (.mov (.t 3)),
 g 61 54 false (.bin .neq (.t 59) (.t 60)), o 62 (.pick (.t 54) T (.t 61))]) (.cond (.t 62) (.seq (.reg [o 2 (.mov F)]) (.ret)) (.skip))))) (.reg [o 63 (.bin .add (.t 45) (i 1)), m
 45 63])))))))) (.seq (.reg [o 5 (.mov (i 0))]) (.seq (.seq (.reg [o 64 (.faddr 6 (.t 1)), l 65 64, o 66 (.len (.t 65)), o 67 (.mov (i 0))]) (.block 2 (.loop (.ghost (.seq (.reg [o
 68 (.bin .lss (.t 67) (.t 66))]) (.seq (.cond (.t 68) (.skip) (.exit 2)) (.seq (.block 3 (.seq (.reg [o 69 (.iaddr 3 (.t 65) (.t 67)), o 70 (.load true 3 (.t 69)), o 7 (.alloc
 [.val (.int .i64 0), .val (.int .i64 0), .val (.int .i64 0)]), n (.store 3 (.t 7) (.t 70))]) (.seq (.seq (.reg [o 71 (.faddr 0 (.t 7)), l 72 71, o 73 (.call 60 [.t 72, .k (.val
 (.int .i64 1)), .k (.val (.int .i64 7))]), o 74 (.un .not (.t 73)), m 75 74, g 76 75 false (.faddr 1 (.t 7)), g 77 75 false (.load false 1 (.t 76)), g 78 75 false (.faddr 5 (.t
 1)), g 79 75 false (.load false 1 (.t 78)), g 80 75 false (.bin .sub (.t 79) (i 1)), g 81 75 false (.call 60 [.t 77, .k (.val (.int .i64 1)), .t 80]), g 82 75 false (.un .not (.t
 81)), o 83 (.pick (.t 75) T (.t 82)), m 84 83, g 85 84 false (.faddr 2 (.t 7)), g 86 84 false (.load false 1 (.t 85)), g 87 84 false (.mov (.t 5)), g 88 84 false (.faddr 4 (.t 1)),
 g 89 84 false (.load false 1 (.t 88)), g 90 84 false (.call 60 [.t 86, .t 87, .t 89]), g 91 84 false (.un .not (.t 90)), o 92 (.pick (.t 84) T (.t 91))]) (.cond (.t 92) (.seq (.reg
 [o 2 (.mov F)]) (.ret)) (.skip))) (.reg [o 93 (.faddr 2 (.t 7)), l 94 93, m 5 94])))) (.reg [o 95 (.bin .add (.t 67) (i 1)), m 67 95])))))))) (.seq (.reg [o 96 (.faddr 7 (.t 1)), l
 97 96, o 98 (.mkfn 85 [.t 1]), o 99 (.call 84 [.t 97, .t 98]), o 100 (.un .not (.t 99)), m 2 100]) (.ret))))))
theorem ok41 : chkFn Tryz.prog 41 ir41 1 [.t 2] = true := by kernel_rfl
def ir174 : PC := .seq (.reg [o 4 (.mov (i 0))]) (.seq (.seq (.reg [m 6 0, o 7 (.len (.t 6)), o 8 (.mov (i 0))]) (.block 0 (.loop (.ghost (.seq (.reg [o 9 (.bin .lss (.t 8) (.t
 7))]) (.seq (.cond (.t 9) (.skip) (.exit 0)) (.seq (.block 1 (.seq (.reg [m 10 8, m 5 10]) (.seq (.reg [m 11 1, m 12 0, m 13 5, o 14 (.iaddr 4 (.t 12) (.t 13)), o 15 (.load true 4
 (.t 14)), o 16 (.callv (.t 11) [.t 15])]) (.cond (.t 16) (.seq (.reg [m 17 5, m 4 17]) (.ret)) (.skip))))) (.reg [o 18 (.bin .add (.t 8) (i 1)), m 8 18])))))))) (.seq (.reg [o 4
 (.mov (i (-1)))]) (.ret)))
theorem ok174 : chkFn Tryz.prog 174 ir174 2 [.t 4] = true := by kernel_rfl
def ir131 : PC := .seq (.reg [o 4 (.mov F)]) (.seq (.reg [m 5 0, m 6 1, o 7 (.call 174 [.t 5, .t 6]), o 8 (.bin .geq (.t 7) (i 0)), m 4 8]) (.ret))
theorem ok131 : chkFn Tryz.prog 131 ir131 2 [.t 4] = true := by kernel_rfl
def ir133 : PC := .seq (.reg [o 4 (.mov (i 0))]) (.seq (.seq (.reg [m 6 0, o 7 (.len (.t 6)), o 8 (.mov (i 0))]) (.block 0 (.loop (.ghost (.seq (.reg [o 9 (.bin .lss (.t 8) (.t
 7))]) (.seq (.cond (.t 9) (.skip) (.exit 0)) (.seq (.block 1 (.seq (.reg [m 10 8, m 5 10]) (.seq (.reg [m 11 1, m 12 0, m 13 5, o 14 (.iaddr 6 (.t 12) (.t 13)), o 15 (.load true 6
 (.t 14)), o 16 (.callv (.t 11) [.t 15])]) (.cond (.t 16) (.seq (.reg [m 17 5, m 4 17]) (.ret)) (.skip))))) (.reg [o 18 (.bin .add (.t 8) (i 1)), m 8 18])))))))) (.seq (.reg [o 4
 (.mov (i (-1)))]) (.ret)))
theorem ok133 : chkFn Tryz.prog 133 ir133 2 [.t 4] = true := by kernel_rfl
def ir135 : PC := .seq (.reg [o 4 (.mov (i 0))]) (.seq (.seq (.reg [m 6 0, o 7 (.len (.t 6)), o 8 (.mov (i 0))]) (.block 0 (.loop (.ghost (.seq (.reg [o 9 (.bin .lss (.t 8) (.t
 7))]) (.seq (.cond (.t 9) (.skip) (.exit 0)) (.seq (.block 1 (.seq (.reg [m 10 8, m 5 10]) (.seq (.reg [m 11 1, m 12 0, m 13 5, o 14 (.iaddr 7 (.t 12) (.t 13)), o 15 (.load true 7
 (.t 14)), o 16 (.callv (.t 11) [.t 15])]) (.cond (.t 16) (.seq (.reg [m 17 5, m 4 17]) (.ret)) (.skip))))) (.reg [o 18 (.bin .add (.t 8) (i 1)), m 8 18])))))))) (.seq (.reg [o 4
 (.mov (i (-1)))]) (.ret)))
theorem ok135 : chkFn Tryz.prog 135 ir135 2 [.t 4] = true := by kernel_rfl
def ir84 : PC := .seq (.reg [o 4 (.mov F)]) (.seq (.reg [m 5 0, m 6 1, o 7 (.call 135 [.t 5, .t 6]), o 8 (.bin .geq (.t 7) (i 0)), m 4 8]) (.ret))
theorem ok84 : chkFn Tryz.prog 84 ir84 2 [.t 4] = true := by kernel_rfl
def ir128 : PC := .seq (.reg [o 4 (.mov F)]) (.seq (.seq (.reg [m 6 0, o 7 (.len (.t 6)), m 8 1, o 9 (.len (.t 8)), o 10 (.bin .neq (.t 7) (.t 9))]) (.cond (.t 10) (.seq (.reg [o 4
 (.mov F)]) (.ret)) (.skip))) (.seq (.seq (.reg [m 11 0, o 12 (.len (.t 11)), o 13 (.mov (i 0))]) (.block 0 (.loop (.ghost (.seq (.reg [o 14 (.bin .lss (.t 13) (.t 12))]) (.seq
 (.cond (.t 14) (.skip) (.exit 0)) (.seq (.block 1 (.seq (.reg [m 15 13, m 5 15]) (.seq (.draw [m 16 0, m 17 5, o 18 (.iaddr 3 (.t 16) (.t 17)), o 19 (.load true 3 (.t 18)), m 20 1,
 m 21 5, o 22 (.iaddr 3 (.t 20) (.t 21)), o 23 (.load true 3 (.t 22))] [o 24 (.eqs true [0, 2, 2] (.t 19) (.t 23))]) (.cond (.t 24) (.seq (.reg [o 4 (.mov F)]) (.ret)) (.skip)))))
 (.reg [o 25 (.bin .add (.t 13) (i 1)), m 13 25])))))))) (.seq (.reg [o 4 (.mov T)]) (.ret))))
theorem ok128 : chkFn Tryz.prog 128 ir128 2 [.t 4] = true := by kernel_rfl
end Go.Proofs
end
section
set_option maxRecDepth 100000
namespace Go.Proofs
open Go.PW Go.PW.I
end Go.Proofs
end
