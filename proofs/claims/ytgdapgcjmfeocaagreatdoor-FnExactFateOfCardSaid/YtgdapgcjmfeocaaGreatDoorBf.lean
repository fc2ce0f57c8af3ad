/- Bf: merged out of IRo, IRz. -/
import Derived.Test.YtgdapgcjmfeocaaGreatDoorPWv
import Derived.Test.YtgdapgcjmfeocaaGreatDoorChecked
import Derived.KernelRfl
section
set_option maxRecDepth 100000
namespace Go.Proofs
open Go.PW Go.PW.I
def ir106 : PC := .seq (.reg [o 4 (.mov (i 0))]) (.seq (.reg [m 5 1, m 6 0, o 7 (.len (.t 6)), o 8 (.bin .sub (.t 5) (.t 7)), m 1 8]) (.seq (.seq (.reg [m 9 1, o 10 (.bin .lss (.t
 9) (i 0))]) (.cond (.t 10) (.seq (.reg [o 4 (.mov (i (-1)))]) (.ret)) (.skip))) (.seq (.reg [m 11 1, m 4 11]) (.ret))))
theorem ok106 : chkFn Tryz.prog 106 ir106 2 [.t 4] = true := by kernel_rfl
def ir120 : PC := .seq (.reg [o 2 (.mov (.k (.emp 1)))]) (.seq (.reg [m 5 0, o 6 (.len (.t 5)), o 7 (.mks 3 1 8 false [.val (.int .i64 0)] (.t 6)), m 3 7]) (.seq (.seq (.reg [o 4
 (.mov (i 0))]) (.block 0 (.loop (.ghost (.seq (.seq (.reg [m 8 4, m 9 0, o 10 (.len (.t 9)), o 11 (.bin .lss (.t 8) (.t 10))]) (.cond (.t 11) (.skip) (.exit 0))) (.seq (.block 1
 (.reg [m 14 3, m 15 4, m 16 0, m 17 4, o 18 (.iaddr 1 (.t 16) (.t 17)), l 19 18, o 20 (.iaddr 1 (.t 14) (.t 15)), n (.store 1 (.t 20) (.t 19))])) (.reg [m 12 4, o 13 (.bin .add (.t
 12) (i 1)), m 4 13]))))))) (.seq (.reg [m 21 3, m 2 21]) (.ret))))
theorem ok120 : chkFn Tryz.prog 120 ir120 1 [.t 2] = true := by kernel_rfl
def ir24 : PC := .seq (.reg [o 4 (.mov F)]) (.seq (.seq (.reg [m 6 0, o 7 (.len (.t 6)), m 8 1, o 9 (.len (.t 8)), o 10 (.bin .neq (.t 7) (.t 9))]) (.cond (.t 10) (.seq (.reg [o 4
 (.mov F)]) (.ret)) (.skip))) (.seq (.seq (.reg [o 5 (.mov (i 0))]) (.block 0 (.loop (.ghost (.seq (.seq (.reg [m 11 5, m 12 0, o 13 (.len (.t 12)), o 14 (.bin .lss (.t 11) (.t
 13))]) (.cond (.t 14) (.skip) (.exit 0))) (.seq (.block 1 (.seq (.draw [m 17 0, m 18 5, o 19 (.iaddr 1 (.t 17) (.t 18)), l 20 19, m 21 1, m 22 5, o 23 (.iaddr 1 (.t 21) (.t 22)), l
 24 23] [o 25 (.bin .neq (.t 20) (.t 24))]) (.cond (.t 25) (.seq (.reg [o 4 (.mov F)]) (.ret)) (.skip)))) (.reg [m 15 5, o 16 (.bin .add (.t 15) (i 1)), m 5 16]))))))) (.seq (.reg
 [o 4 (.mov T)]) (.ret))))
theorem ok24 : chkFn Tryz.prog 24 ir24 2 [.t 4] = true := by kernel_rfl
def ir190 : PC := .seq (.reg [o 2 (.box (.t 0)), o 4 (.mov (i 0))]) (.seq (.reg [m 5 1, o 6 (.faddr 3 (.t 2)), l 7 6, o 8 (.lens (.t 7)), o 9 (.bin .sub (.t 5) (.t 8)), m 1 9])
 (.seq (.seq (.reg [m 10 1, o 11 (.bin .lss (.t 10) (i 0))]) (.cond (.t 11) (.seq (.reg [o 4 (.mov (i (-1)))]) (.ret)) (.skip))) (.seq (.reg [m 12 1, m 4 12]) (.ret))))
theorem ok190 : chkFn Tryz.prog 190 ir190 2 [.t 4] = true := by kernel_rfl
def ir146 : PC := .seq (.reg [o 4 (.mov (i 0))]) (.seq (.reg [m 6 1, m 7 0, o 8 (.len (.t 7)), o 9 (.bin .sub (.t 6) (.t 8)), m 1 9]) (.seq (.seq (.reg [m 10 1, o 11 (.bin .lss (.t
 10) (i 0))]) (.cond (.t 11) (.seq (.reg [o 4 (.mov (i (-1)))]) (.ret)) (.skip))) (.seq (.seq (.reg [o 5 (.mov (i 0))]) (.block 0 (.loop (.ghost (.seq (.seq (.reg [m 12 5, m 13 0, o
 14 (.len (.t 13)), o 15 (.bin .lss (.t 12) (.t 14))]) (.cond (.t 15) (.skip) (.exit 0))) (.seq (.block 1 (.seq (.reg [m 18 0, m 19 5, o 20 (.iaddr 4 (.t 18) (.t 19)), o 21 (.load
 true 4 (.t 20)), m 22 1, o 23 (.call 190 [.t 21, .t 22]), m 1 23]) (.seq (.reg [m 24 1, o 25 (.bin .lss (.t 24) (i 0))]) (.cond (.t 25) (.seq (.reg [o 4 (.mov (i (-1)))]) (.ret))
 (.skip))))) (.reg [m 16 5, o 17 (.bin .add (.t 16) (i 1)), m 5 17]))))))) (.seq (.reg [m 26 1, m 4 26]) (.ret)))))
theorem ok146 : chkFn Tryz.prog 146 ir146 2 [.t 4] = true := by kernel_rfl
def ir195 : PC := .seq (.reg [o 1 (.box (.t 0)), o 2 (.alloc [.val (.int .i64 0), .val (.int .i64 0), .val (.int .i64 0), .val (.str ⟨#[]⟩)])]) (.seq (.reg [o 3 (.alloc [.val (.int
 .i64 0), .val (.int .i64 0), .val (.int .i64 0), .val (.str ⟨#[]⟩)])]) (.seq (.reg [o 4 (.faddr 0 (.t 1)), l 5 4, o 6 (.faddr 0 (.t 3)), n (.store 1 (.t 6) (.t 5))]) (.seq (.reg [o
 7 (.faddr 1 (.t 1)), l 8 7, o 9 (.faddr 1 (.t 3)), n (.store 1 (.t 9) (.t 8))]) (.seq (.reg [o 10 (.faddr 2 (.t 1)), l 11 10, o 12 (.faddr 2 (.t 3)), n (.store 1 (.t 12) (.t 11))])
 (.seq (.reg [o 13 (.faddr 3 (.t 1)), l 14 13, o 15 (.faddr 3 (.t 3)), n (.store 1 (.t 15) (.t 14))]) (.seq (.reg [o 16 (.load true 4 (.t 3)), n (.store 4 (.t 2) (.t 16))])
 (.ret)))))))
theorem ok195 : chkFn Tryz.prog 195 ir195 1 [.c 2 true 4] = true := by kernel_rfl
def ir157 : PC := .seq (.reg [o 2 (.mov (.k (.emp 4)))]) (.seq (.reg [m 5 0, o 6 (.len (.t 5)), o 7 (.mks 146 4 40 true [.val (.int .i64 0), .val (.int .i64 0), .val (.int .i64 0),
 .val (.str ⟨#[]⟩)] (.t 6)), m 3 7]) (.seq (.seq (.reg [o 4 (.mov (i 0))]) (.block 0 (.loop (.ghost (.seq (.seq (.reg [m 8 4, m 9 0, o 10 (.len (.t 9)), o 11 (.bin .lss (.t 8) (.t
 10))]) (.cond (.t 11) (.skip) (.exit 0))) (.seq (.block 1 (.reg [m 14 3, m 15 4, m 16 0, m 17 4, o 18 (.iaddr 4 (.t 16) (.t 17)), o 19 (.load true 4 (.t 18)), o 20 (.call 195 [.t
 19]), o 21 (.iaddr 4 (.t 14) (.t 15)), n (.store 4 (.t 21) (.t 20))])) (.reg [m 12 4, o 13 (.bin .add (.t 12) (i 1)), m 4 13]))))))) (.seq (.reg [m 22 3, m 2 22]) (.ret))))
theorem ok157 : chkFn Tryz.prog 157 ir157 1 [.t 2] = true := by kernel_rfl
def ir208 : PC := .seq (.reg [o 2 (.box (.t 0)), o 3 (.box (.t 1)), o 4 (.mov F)]) (.seq (.seq (.reg [o 5 (.faddr 0 (.t 2)), l 6 5, o 7 (.faddr 0 (.t 3)), l 8 7, o 9 (.bin .neq (.t
 6) (.t 8))]) (.cond (.t 9) (.seq (.reg [o 4 (.mov F)]) (.ret)) (.skip))) (.seq (.seq (.reg [o 10 (.faddr 1 (.t 2)), l 11 10, o 12 (.faddr 1 (.t 3)), l 13 12, o 14 (.bin .neq (.t
 11) (.t 13))]) (.cond (.t 14) (.seq (.reg [o 4 (.mov F)]) (.ret)) (.skip))) (.seq (.seq (.reg [o 15 (.faddr 2 (.t 2)), l 16 15, o 17 (.faddr 2 (.t 3)), l 18 17, o 19 (.bin .neq (.t
 16) (.t 18))]) (.cond (.t 19) (.seq (.reg [o 4 (.mov F)]) (.ret)) (.skip))) (.seq (.seq (.reg [o 20 (.faddr 3 (.t 2)), l 21 20, o 22 (.faddr 3 (.t 3)), l 23 22, o 24 (.bin .neq (.t
 21) (.t 23))]) (.cond (.t 24) (.seq (.reg [o 4 (.mov F)]) (.ret)) (.skip))) (.seq (.reg [o 4 (.mov T)]) (.ret))))))
theorem ok208 : chkFn Tryz.prog 208 ir208 2 [.t 4] = true := by kernel_rfl
def ir177 : PC := .seq (.reg [o 4 (.mov F)]) (.seq (.seq (.reg [m 6 0, o 7 (.len (.t 6)), m 8 1, o 9 (.len (.t 8)), o 10 (.bin .neq (.t 7) (.t 9))]) (.cond (.t 10) (.seq (.reg [o 4
 (.mov F)]) (.ret)) (.skip))) (.seq (.seq (.reg [o 5 (.mov (i 0))]) (.block 0 (.loop (.ghost (.seq (.seq (.reg [m 11 5, m 12 0, o 13 (.len (.t 12)), o 14 (.bin .lss (.t 11) (.t
 13))]) (.cond (.t 14) (.skip) (.exit 0))) (.seq (.block 1 (.seq (.draw [m 17 0, m 18 5, o 19 (.iaddr 4 (.t 17) (.t 18)), o 20 (.load true 4 (.t 19)), m 21 1, m 22 5, o 23 (.iaddr 4
 (.t 21) (.t 22)), o 24 (.load true 4 (.t 23))] [o 25 (.call 208 [.t 20, .t 24]), o 26 (.un .not (.t 25))]) (.cond (.t 26) (.seq (.reg [o 4 (.mov F)]) (.ret)) (.skip)))) (.reg [m 15
 5, o 16 (.bin .add (.t 15) (i 1)), m 5 16]))))))) (.seq (.reg [o 4 (.mov T)]) (.ret))))
theorem ok177 : chkFn Tryz.prog 177 ir177 2 [.t 4] = true := by kernel_rfl
def ir104 : PC := .seq (.reg [o 2 (.box (.t 0)), o 4 (.mov (i 0))]) (.seq (.reg [o 5 (.faddr 0 (.t 2)), l 6 5, m 7 1, o 8 (.call 146 [.t 6, .t 7]), m 1 8]) (.seq (.seq (.reg [m 9 1,
 o 10 (.bin .lss (.t 9) (i 0))]) (.cond (.t 10) (.seq (.reg [o 4 (.mov (i (-1)))]) (.ret)) (.skip))) (.seq (.reg [o 11 (.faddr 1 (.t 2)), l 12 11, m 13 1, o 14 (.call 68 [.t 12, .t
 13]), m 1 14]) (.seq (.seq (.reg [m 15 1, o 16 (.bin .lss (.t 15) (i 0))]) (.cond (.t 16) (.seq (.reg [o 4 (.mov (i (-1)))]) (.ret)) (.skip))) (.seq (.reg [m 17 1, m 4 17])
 (.ret))))))
theorem ok104 : chkFn Tryz.prog 104 ir104 2 [.t 4] = true := by kernel_rfl
def ir118 : PC := .seq (.reg [o 1 (.box (.t 0)), o 2 (.alloc [.emp 4, .emp 1])]) (.seq (.reg [o 3 (.alloc [.emp 4, .emp 1])]) (.seq (.reg [o 4 (.faddr 0 (.t 1)), l 5 4, o 6 (.call
 157 [.t 5]), o 7 (.faddr 0 (.t 3)), n (.store 1 (.t 7) (.t 6))]) (.seq (.reg [o 8 (.faddr 1 (.t 1)), l 9 8, o 10 (.call 76 [.t 9]), o 11 (.faddr 1 (.t 3)), n (.store 1 (.t 11) (.t
 10))]) (.seq (.reg [o 12 (.load true 2 (.t 3)), n (.store 2 (.t 2) (.t 12))]) (.ret)))))
theorem ok118 : chkFn Tryz.prog 118 ir118 1 [.c 2 true 2] = true := by kernel_rfl
def ir140 : PC := .seq (.reg [o 2 (.box (.t 0)), o 3 (.box (.t 1)), o 4 (.mov F)]) (.seq (.seq (.reg [o 5 (.faddr 0 (.t 2)), l 6 5, o 7 (.faddr 0 (.t 3)), l 8 7, o 9 (.call 177 [.t
 6, .t 8]), o 10 (.un .not (.t 9))]) (.cond (.t 10) (.seq (.reg [o 4 (.mov F)]) (.ret)) (.skip))) (.seq (.seq (.reg [o 11 (.faddr 1 (.t 2)), l 12 11, o 13 (.faddr 1 (.t 3)), l 14
 13, o 15 (.call 88 [.t 12, .t 14]), o 16 (.un .not (.t 15))]) (.cond (.t 16) (.seq (.reg [o 4 (.mov F)]) (.ret)) (.skip))) (.seq (.reg [o 4 (.mov T)]) (.ret))))
theorem ok140 : chkFn Tryz.prog 140 ir140 2 [.t 4] = true := by kernel_rfl
def ir67 : PC := .seq (.reg [o 2 (.box (.t 0)), o 4 (.mov (i 0))]) (.seq (.reg [o 5 (.faddr 0 (.t 2)), o 6 (.load true 3 (.t 5)), m 7 1, o 8 (.call 102 [.t 6, .t 7]), m 1 8]) (.seq
 (.seq (.reg [m 9 1, o 10 (.bin .lss (.t 9) (i 0))]) (.cond (.t 10) (.seq (.reg [o 4 (.mov (i (-1)))]) (.ret)) (.skip))) (.seq (.reg [o 11 (.faddr 3 (.t 2)), l 12 11, m 13 1, o 14
 (.call 103 [.t 12, .t 13]), m 1 14]) (.seq (.seq (.reg [m 15 1, o 16 (.bin .lss (.t 15) (i 0))]) (.cond (.t 16) (.seq (.reg [o 4 (.mov (i (-1)))]) (.ret)) (.skip))) (.seq (.reg [o
 17 (.faddr 4 (.t 2)), o 18 (.load true 2 (.t 17)), m 19 1, o 20 (.call 104 [.t 18, .t 19]), m 1 20]) (.seq (.seq (.reg [m 21 1, o 22 (.bin .lss (.t 21) (i 0))]) (.cond (.t 22)
 (.seq (.reg [o 4 (.mov (i (-1)))]) (.ret)) (.skip))) (.seq (.reg [m 23 1, m 4 23]) (.ret))))))))
theorem ok67 : chkFn Tryz.prog 67 ir67 2 [.t 4] = true := by kernel_rfl
def ir31 : PC := .seq (.reg [o 4 (.mov (i 0))]) (.seq (.reg [m 6 1, m 7 0, o 8 (.len (.t 7)), o 9 (.bin .sub (.t 6) (.t 8)), m 1 9]) (.seq (.seq (.reg [m 10 1, o 11 (.bin .lss (.t
 10) (i 0))]) (.cond (.t 11) (.seq (.reg [o 4 (.mov (i (-1)))]) (.ret)) (.skip))) (.seq (.seq (.reg [o 5 (.mov (i 0))]) (.block 0 (.loop (.ghost (.seq (.seq (.reg [m 12 5, m 13 0, o
 14 (.len (.t 13)), o 15 (.bin .lss (.t 12) (.t 14))]) (.cond (.t 15) (.skip) (.exit 0))) (.seq (.block 1 (.seq (.reg [m 18 0, m 19 5, o 20 (.iaddr 6 (.t 18) (.t 19)), o 21 (.load
 true 6 (.t 20)), m 22 1, o 23 (.call 67 [.t 21, .t 22]), m 1 23]) (.seq (.reg [m 24 1, o 25 (.bin .lss (.t 24) (i 0))]) (.cond (.t 25) (.seq (.reg [o 4 (.mov (i (-1)))]) (.ret))
 (.skip))))) (.reg [m 16 5, o 17 (.bin .add (.t 16) (i 1)), m 5 17]))))))) (.seq (.reg [m 26 1, m 4 26]) (.ret)))))
theorem ok31 : chkFn Tryz.prog 31 ir31 2 [.t 4] = true := by kernel_rfl
def ir75 : PC := .seq (.reg [o 1 (.box (.t 0)), o 2 (.alloc [.val (.str ⟨#[]⟩), .val (.int .i64 0), .emp 3, .emp 6, .emp 4, .emp 1])]) (.seq (.reg [o 3 (.alloc [.val (.str ⟨#[]⟩),
 .val (.int .i64 0), .emp 3, .emp 6, .emp 4, .emp 1])]) (.seq (.reg [o 4 (.faddr 0 (.t 1)), o 5 (.load true 3 (.t 4)), o 6 (.call 116 [.t 5]), o 7 (.faddr 0 (.t 3)), n (.store 3 (.t
 7) (.t 6))]) (.seq (.reg [o 8 (.faddr 3 (.t 1)), l 9 8, o 10 (.call 117 [.t 9]), o 11 (.faddr 3 (.t 3)), n (.store 1 (.t 11) (.t 10))]) (.seq (.reg [o 12 (.faddr 4 (.t 1)), o 13
 (.load true 2 (.t 12)), o 14 (.call 118 [.t 13]), o 15 (.faddr 4 (.t 3)), n (.store 2 (.t 15) (.t 14))]) (.seq (.reg [o 16 (.load true 6 (.t 3)), n (.store 6 (.t 2) (.t 16))])
 (.ret))))))
theorem ok75 : chkFn Tryz.prog 75 ir75 1 [.c 2 true 6] = true := by kernel_rfl
def ir37 : PC := .seq (.reg [o 2 (.mov (.k (.emp 6)))]) (.seq (.reg [m 5 0, o 6 (.len (.t 5)), o 7 (.mks 120 6 120 true [.val (.str ⟨#[]⟩), .val (.int .i64 0), .emp 3, .emp 6, .emp
 4, .emp 1] (.t 6)), m 3 7]) (.seq (.seq (.reg [o 4 (.mov (i 0))]) (.block 0 (.loop (.ghost (.seq (.seq (.reg [m 8 4, m 9 0, o 10 (.len (.t 9)), o 11 (.bin .lss (.t 8) (.t 10))])
 (.cond (.t 11) (.skip) (.exit 0))) (.seq (.block 1 (.reg [m 14 3, m 15 4, m 16 0, m 17 4, o 18 (.iaddr 6 (.t 16) (.t 17)), o 19 (.load true 6 (.t 18)), o 20 (.call 75 [.t 19]), o
 21 (.iaddr 6 (.t 14) (.t 15)), n (.store 6 (.t 21) (.t 20))])) (.reg [m 12 4, o 13 (.bin .add (.t 12) (i 1)), m 4 13]))))))) (.seq (.reg [m 22 3, m 2 22]) (.ret))))
theorem ok37 : chkFn Tryz.prog 37 ir37 1 [.t 2] = true := by kernel_rfl
def ir87 : PC := .seq (.reg [o 2 (.box (.t 0)), o 3 (.box (.t 1)), o 4 (.mov F)]) (.seq (.seq (.reg [o 5 (.faddr 0 (.t 2)), o 6 (.load true 3 (.t 5)), o 7 (.faddr 0 (.t 3)), o 8
 (.load true 3 (.t 7)), o 9 (.call 138 [.t 6, .t 8]), o 10 (.un .not (.t 9))]) (.cond (.t 10) (.seq (.reg [o 4 (.mov F)]) (.ret)) (.skip))) (.seq (.seq (.reg [o 11 (.faddr 3 (.t
 2)), l 12 11, o 13 (.faddr 3 (.t 3)), l 14 13, o 15 (.call 139 [.t 12, .t 14]), o 16 (.un .not (.t 15))]) (.cond (.t 16) (.seq (.reg [o 4 (.mov F)]) (.ret)) (.skip))) (.seq (.seq
 (.reg [o 17 (.faddr 4 (.t 2)), o 18 (.load true 2 (.t 17)), o 19 (.faddr 4 (.t 3)), o 20 (.load true 2 (.t 19)), o 21 (.call 140 [.t 18, .t 20]), o 22 (.un .not (.t 21))]) (.cond
 (.t 22) (.seq (.reg [o 4 (.mov F)]) (.ret)) (.skip))) (.seq (.reg [o 4 (.mov T)]) (.ret)))))
theorem ok87 : chkFn Tryz.prog 87 ir87 2 [.t 4] = true := by kernel_rfl
def ir43 : PC := .seq (.reg [o 4 (.mov F)]) (.seq (.seq (.reg [m 6 0, o 7 (.len (.t 6)), m 8 1, o 9 (.len (.t 8)), o 10 (.bin .neq (.t 7) (.t 9))]) (.cond (.t 10) (.seq (.reg [o 4
 (.mov F)]) (.ret)) (.skip))) (.seq (.seq (.reg [o 5 (.mov (i 0))]) (.block 0 (.loop (.ghost (.seq (.seq (.reg [m 11 5, m 12 0, o 13 (.len (.t 12)), o 14 (.bin .lss (.t 11) (.t
 13))]) (.cond (.t 14) (.skip) (.exit 0))) (.seq (.block 1 (.seq (.draw [m 17 0, m 18 5, o 19 (.iaddr 6 (.t 17) (.t 18)), o 20 (.load true 6 (.t 19)), m 21 1, m 22 5, o 23 (.iaddr 6
 (.t 21) (.t 22)), o 24 (.load true 6 (.t 23))] [o 25 (.call 87 [.t 20, .t 24]), o 26 (.un .not (.t 25))]) (.cond (.t 26) (.seq (.reg [o 4 (.mov F)]) (.ret)) (.skip)))) (.reg [m 15
 5, o 16 (.bin .add (.t 15) (i 1)), m 5 16]))))))) (.seq (.reg [o 4 (.mov T)]) (.ret))))
theorem ok43 : chkFn Tryz.prog 43 ir43 2 [.t 4] = true := by kernel_rfl
def ir33 : PC := .seq (.reg [o 4 (.mov (i 0))]) (.seq (.reg [m 5 1, m 6 0, o 7 (.len (.t 6)), o 8 (.bin .sub (.t 5) (.t 7)), m 1 8]) (.seq (.seq (.reg [m 9 1, o 10 (.bin .lss (.t 9)
 (i 0))]) (.cond (.t 10) (.seq (.reg [o 4 (.mov (i (-1)))]) (.ret)) (.skip))) (.seq (.reg [m 11 1, m 4 11]) (.ret))))
theorem ok33 : chkFn Tryz.prog 33 ir33 2 [.t 4] = true := by kernel_rfl
def ir78 : PC := .seq (.reg [o 1 (.box (.t 0)), o 2 (.alloc [.val (.int .i64 0), .val (.int .i64 0), .val (.int .i64 0)])]) (.seq (.reg [o 3 (.alloc [.val (.int .i64 0), .val (.int
 .i64 0), .val (.int .i64 0)])]) (.seq (.reg [o 4 (.faddr 0 (.t 1)), l 5 4, o 6 (.faddr 0 (.t 3)), n (.store 1 (.t 6) (.t 5))]) (.seq (.reg [o 7 (.faddr 1 (.t 1)), l 8 7, o 9
 (.faddr 1 (.t 3)), n (.store 1 (.t 9) (.t 8))]) (.seq (.reg [o 10 (.faddr 2 (.t 1)), l 11 10, o 12 (.faddr 2 (.t 3)), n (.store 1 (.t 12) (.t 11))]) (.seq (.reg [o 13 (.load true 3
 (.t 3)), n (.store 3 (.t 2) (.t 13))]) (.ret))))))
theorem ok78 : chkFn Tryz.prog 78 ir78 1 [.c 2 true 3] = true := by kernel_rfl
def ir39 : PC := .seq (.reg [o 2 (.mov (.k (.emp 3)))]) (.seq (.reg [m 5 0, o 6 (.len (.t 5)), o 7 (.mks 83 3 24 true [.val (.int .i64 0), .val (.int .i64 0), .val (.int .i64 0)]
 (.t 6)), m 3 7]) (.seq (.seq (.reg [o 4 (.mov (i 0))]) (.block 0 (.loop (.ghost (.seq (.seq (.reg [m 8 4, m 9 0, o 10 (.len (.t 9)), o 11 (.bin .lss (.t 8) (.t 10))]) (.cond (.t
 11) (.skip) (.exit 0))) (.seq (.block 1 (.reg [m 14 3, m 15 4, m 16 0, m 17 4, o 18 (.iaddr 3 (.t 16) (.t 17)), o 19 (.load true 3 (.t 18)), o 20 (.call 78 [.t 19]), o 21 (.iaddr 3
 (.t 14) (.t 15)), n (.store 3 (.t 21) (.t 20))])) (.reg [m 12 4, o 13 (.bin .add (.t 12) (i 1)), m 4 13]))))))) (.seq (.reg [m 22 3, m 2 22]) (.ret))))
theorem ok39 : chkFn Tryz.prog 39 ir39 1 [.t 2] = true := by kernel_rfl
def ir52 : PC := .seq (.reg [o 2 (.box (.t 0)), o 3 (.box (.t 1)), o 4 (.mov F)]) (.seq (.seq (.reg [o 5 (.faddr 0 (.t 2)), l 6 5, o 7 (.faddr 0 (.t 3)), l 8 7, o 9 (.bin .neq (.t
 6) (.t 8))]) (.cond (.t 9) (.seq (.reg [o 4 (.mov F)]) (.ret)) (.skip))) (.seq (.seq (.reg [o 10 (.faddr 1 (.t 2)), l 11 10, o 12 (.faddr 1 (.t 3)), l 13 12, o 14 (.bin .neq (.t
 11) (.t 13))]) (.cond (.t 14) (.seq (.reg [o 4 (.mov F)]) (.ret)) (.skip))) (.seq (.seq (.reg [o 15 (.faddr 2 (.t 2)), l 16 15, o 17 (.faddr 2 (.t 3)), l 18 17, o 19 (.bin .neq (.t
 16) (.t 18))]) (.cond (.t 19) (.seq (.reg [o 4 (.mov F)]) (.ret)) (.skip))) (.seq (.reg [o 4 (.mov T)]) (.ret)))))
theorem ok52 : chkFn Tryz.prog 52 ir52 2 [.t 4] = true := by kernel_rfl
def ir18 : PC := .seq (.reg [o 4 (.mov F)]) (.seq (.seq (.reg [m 6 0, o 7 (.len (.t 6)), m 8 1, o 9 (.len (.t 8)), o 10 (.bin .neq (.t 7) (.t 9))]) (.cond (.t 10) (.seq (.reg [o 4
 (.mov F)]) (.ret)) (.skip))) (.seq (.seq (.reg [o 5 (.mov (i 0))]) (.block 0 (.loop (.ghost (.seq (.seq (.reg [m 11 5, m 12 0, o 13 (.len (.t 12)), o 14 (.bin .lss (.t 11) (.t
 13))]) (.cond (.t 14) (.skip) (.exit 0))) (.seq (.block 1 (.seq (.draw [m 17 0, m 18 5, o 19 (.iaddr 3 (.t 17) (.t 18)), o 20 (.load true 3 (.t 19)), m 21 1, m 22 5, o 23 (.iaddr 3
 (.t 21) (.t 22)), o 24 (.load true 3 (.t 23))] [o 25 (.call 52 [.t 20, .t 24]), o 26 (.un .not (.t 25))]) (.cond (.t 26) (.seq (.reg [o 4 (.mov F)]) (.ret)) (.skip)))) (.reg [m 15
 5, o 16 (.bin .add (.t 15) (i 1)), m 5 16]))))))) (.seq (.reg [o 4 (.mov T)]) (.ret))))
theorem ok18 : chkFn Tryz.prog 18 ir18 2 [.t 4] = true := by kernel_rfl
def ir70 : PC := .seq (.reg [o 2 (.box (.t 0)), o 4 (.mov (i 0))]) (.seq (.reg [m 5 1, o 6 (.faddr 2 (.t 2)), l 7 6, o 8 (.lens (.t 7)), o 9 (.bin .sub (.t 5) (.t 8)), m 1 9]) (.seq
 (.seq (.reg [m 10 1, o 11 (.bin .lss (.t 10) (i 0))]) (.cond (.t 11) (.seq (.reg [o 4 (.mov (i (-1)))]) (.ret)) (.skip))) (.seq (.reg [m 12 1, o 13 (.faddr 3 (.t 2)), l 14 13, o 15
 (.lens (.t 14)), o 16 (.bin .sub (.t 12) (.t 15)), m 1 16]) (.seq (.seq (.reg [m 17 1, o 18 (.bin .lss (.t 17) (i 0))]) (.cond (.t 18) (.seq (.reg [o 4 (.mov (i (-1)))]) (.ret))
 (.skip))) (.seq (.reg [o 19 (.faddr 4 (.t 2)), l 20 19, m 21 1, o 22 (.call 106 [.t 20, .t 21]), m 1 22]) (.seq (.seq (.reg [m 23 1, o 24 (.bin .lss (.t 23) (i 0))]) (.cond (.t 24)
 (.seq (.reg [o 4 (.mov (i (-1)))]) (.ret)) (.skip))) (.seq (.reg [m 25 1, o 26 (.faddr 5 (.t 2)), l 27 26, o 28 (.lens (.t 27)), o 29 (.bin .sub (.t 25) (.t 28)), m 1 29]) (.seq
 (.seq (.reg [m 30 1, o 31 (.bin .lss (.t 30) (i 0))]) (.cond (.t 31) (.seq (.reg [o 4 (.mov (i (-1)))]) (.ret)) (.skip))) (.seq (.reg [m 32 1, m 4 32]) (.ret))))))))))
theorem ok70 : chkFn Tryz.prog 70 ir70 2 [.t 4] = true := by kernel_rfl
def ir34 : PC := .seq (.reg [o 4 (.mov (i 0))]) (.seq (.reg [m 6 1, m 7 0, o 8 (.len (.t 7)), o 9 (.bin .sub (.t 6) (.t 8)), m 1 9]) (.seq (.seq (.reg [m 10 1, o 11 (.bin .lss (.t
 10) (i 0))]) (.cond (.t 11) (.seq (.reg [o 4 (.mov (i (-1)))]) (.ret)) (.skip))) (.seq (.seq (.reg [o 5 (.mov (i 0))]) (.block 0 (.loop (.ghost (.seq (.seq (.reg [m 12 5, m 13 0, o
 14 (.len (.t 13)), o 15 (.bin .lss (.t 12) (.t 14))]) (.cond (.t 15) (.skip) (.exit 0))) (.seq (.block 1 (.seq (.reg [m 18 0, m 19 5, o 20 (.iaddr 7 (.t 18) (.t 19)), o 21 (.load
 true 7 (.t 20)), m 22 1, o 23 (.call 70 [.t 21, .t 22]), m 1 23]) (.seq (.reg [m 24 1, o 25 (.bin .lss (.t 24) (i 0))]) (.cond (.t 25) (.seq (.reg [o 4 (.mov (i (-1)))]) (.ret))
 (.skip))))) (.reg [m 16 5, o 17 (.bin .add (.t 16) (i 1)), m 5 17]))))))) (.seq (.reg [m 26 1, m 4 26]) (.ret)))))
theorem ok34 : chkFn Tryz.prog 34 ir34 2 [.t 4] = true := by kernel_rfl
def ir79 : PC := .seq (.reg [o 1 (.box (.t 0)), o 2 (.alloc [.val (.int .i64 0), .val (.int .i64 0), .val (.str ⟨#[]⟩), .val (.str ⟨#[]⟩), .emp 1, .val (.str ⟨#[]⟩), .val (.bool
 false)])]) (.seq (.reg [o 3 (.alloc [.val (.int .i64 0), .val (.int .i64 0), .val (.str ⟨#[]⟩), .val (.str ⟨#[]⟩), .emp 1, .val (.str ⟨#[]⟩), .val (.bool false)])]) (.seq (.reg [o
 4 (.faddr 0 (.t 1)), l 5 4, o 6 (.faddr 0 (.t 3)), n (.store 1 (.t 6) (.t 5))]) (.seq (.reg [o 7 (.faddr 1 (.t 1)), l 8 7, o 9 (.faddr 1 (.t 3)), n (.store 1 (.t 9) (.t 8))]) (.seq
 (.reg [o 10 (.faddr 2 (.t 1)), l 11 10, o 12 (.faddr 2 (.t 3)), n (.store 1 (.t 12) (.t 11))]) (.seq (.reg [o 13 (.faddr 3 (.t 1)), l 14 13, o 15 (.faddr 3 (.t 3)), n (.store 1 (.t
 15) (.t 14))]) (.seq (.reg [o 16 (.faddr 4 (.t 1)), l 17 16, o 18 (.call 120 [.t 17]), o 19 (.faddr 4 (.t 3)), n (.store 1 (.t 19) (.t 18))]) (.seq (.reg [o 20 (.faddr 5 (.t 1)), l
 21 20, o 22 (.faddr 5 (.t 3)), n (.store 1 (.t 22) (.t 21))]) (.seq (.reg [o 23 (.faddr 6 (.t 1)), l 24 23, o 25 (.faddr 6 (.t 3)), n (.store 1 (.t 25) (.t 24))]) (.seq (.reg [o 26
 (.load true 7 (.t 3)), n (.store 7 (.t 2) (.t 26))]) (.ret))))))))))
theorem ok79 : chkFn Tryz.prog 79 ir79 1 [.c 2 true 7] = true := by kernel_rfl
def ir40 : PC := .seq (.reg [o 2 (.mov (.k (.emp 7)))]) (.seq (.reg [m 5 0, o 6 (.len (.t 5)), o 7 (.mks 77 7 96 true [.val (.int .i64 0), .val (.int .i64 0), .val (.str ⟨#[]⟩),
 .val (.str ⟨#[]⟩), .emp 1, .val (.str ⟨#[]⟩), .val (.bool false)] (.t 6)), m 3 7]) (.seq (.seq (.reg [o 4 (.mov (i 0))]) (.block 0 (.loop (.ghost (.seq (.seq (.reg [m 8 4, m 9 0, o
 10 (.len (.t 9)), o 11 (.bin .lss (.t 8) (.t 10))]) (.cond (.t 11) (.skip) (.exit 0))) (.seq (.block 1 (.reg [m 14 3, m 15 4, m 16 0, m 17 4, o 18 (.iaddr 7 (.t 16) (.t 17)), o 19
 (.load true 7 (.t 18)), o 20 (.call 79 [.t 19]), o 21 (.iaddr 7 (.t 14) (.t 15)), n (.store 7 (.t 21) (.t 20))])) (.reg [m 12 4, o 13 (.bin .add (.t 12) (i 1)), m 4 13])))))))
 (.seq (.reg [m 22 3, m 2 22]) (.ret))))
theorem ok40 : chkFn Tryz.prog 40 ir40 1 [.t 2] = true := by kernel_rfl
def ir90 : PC := .seq (.reg [o 2 (.box (.t 0)), o 3 (.box (.t 1)), o 4 (.mov F)]) (.seq (.seq (.reg [o 5 (.faddr 0 (.t 2)), l 6 5, o 7 (.faddr 0 (.t 3)), l 8 7, o 9 (.bin .neq (.t
 6) (.t 8))]) (.cond (.t 9) (.seq (.reg [o 4 (.mov F)]) (.ret)) (.skip))) (.seq (.seq (.reg [o 10 (.faddr 1 (.t 2)), l 11 10, o 12 (.faddr 1 (.t 3)), l 13 12, o 14 (.bin .neq (.t
 11) (.t 13))]) (.cond (.t 14) (.seq (.reg [o 4 (.mov F)]) (.ret)) (.skip))) (.seq (.seq (.reg [o 15 (.faddr 2 (.t 2)), l 16 15, o 17 (.faddr 2 (.t 3)), l 18 17, o 19 (.bin .neq (.t
 16) (.t 18))]) (.cond (.t 19) (.seq (.reg [o 4 (.mov F)]) (.ret)) (.skip))) (.seq (.seq (.reg [o 20 (.faddr 3 (.t 2)), l 21 20, o 22 (.faddr 3 (.t 3)), l 23 22, o 24 (.bin .neq (.t
 21) (.t 23))]) (.cond (.t 24) (.seq (.reg [o 4 (.mov F)]) (.ret)) (.skip))) (.seq (.seq (.reg [o 25 (.faddr 4 (.t 2)), l 26 25, o 27 (.faddr 4 (.t 3)), l 28 27, o 29 (.call 24 [.t
 26, .t 28]), o 30 (.un .not (.t 29))]) (.cond (.t 30) (.seq (.reg [o 4 (.mov F)]) (.ret)) (.skip))) (.seq (.seq (.reg [o 31 (.faddr 5 (.t 2)), l 32 31, o 33 (.faddr 5 (.t 3)), l 34
 33, o 35 (.bin .neq (.t 32) (.t 34))]) (.cond (.t 35) (.seq (.reg [o 4 (.mov F)]) (.ret)) (.skip))) (.seq (.seq (.reg [o 36 (.faddr 6 (.t 2)), l 37 36, o 38 (.faddr 6 (.t 3)), l 39
 38, o 40 (.eqb true (.t 37) (.t 39))]) (.cond (.t 40) (.seq (.reg [o 4 (.mov F)]) (.ret)) (.skip))) (.seq (.reg [o 4 (.mov T)]) (.ret)))))))))
theorem ok90 : chkFn Tryz.prog 90 ir90 2 [.t 4] = true := by kernel_rfl
def ir45 : PC := .seq (.reg [o 4 (.mov F)]) (.seq (.seq (.reg [m 6 0, o 7 (.len (.t 6)), m 8 1, o 9 (.len (.t 8)), o 10 (.bin .neq (.t 7) (.t 9))]) (.cond (.t 10) (.seq (.reg [o 4
 (.mov F)]) (.ret)) (.skip))) (.seq (.seq (.reg [o 5 (.mov (i 0))]) (.block 0 (.loop (.ghost (.seq (.seq (.reg [m 11 5, m 12 0, o 13 (.len (.t 12)), o 14 (.bin .lss (.t 11) (.t
 13))]) (.cond (.t 14) (.skip) (.exit 0))) (.seq (.block 1 (.seq (.draw [m 17 0, m 18 5, o 19 (.iaddr 7 (.t 17) (.t 18)), o 20 (.load true 7 (.t 19)), m 21 1, m 22 5, o 23 (.iaddr 7
 (.t 21) (.t 22)), o 24 (.load true 7 (.t 23))] [o 25 (.call 90 [.t 20, .t 24]), o 26 (.un .not (.t 25))]) (.cond (.t 26) (.seq (.reg [o 4 (.mov F)]) (.ret)) (.skip)))) (.reg [m 15
 5, o 16 (.bin .add (.t 15) (i 1)), m 5 16]))))))) (.seq (.reg [o 4 (.mov T)]) (.ret))))
theorem ok45 : chkFn Tryz.prog 45 ir45 2 [.t 4] = true := by kernel_rfl
def ir9 : PC := .seq (.reg [o 2 (.box (.t 0)), o 4 (.mov (i 0))]) (.seq (.reg [o 5 (.faddr 0 (.t 2)), l 6 5, m 7 1, o 8 (.call 31 [.t 6, .t 7]), m 1 8]) (.seq (.seq (.reg [m 9 1, o
 10 (.bin .lss (.t 9) (i 0))]) (.cond (.t 10) (.seq (.reg [o 4 (.mov (i (-1)))]) (.ret)) (.skip))) (.seq (.reg [o 11 (.faddr 1 (.t 2)), o 12 (.load true 3 (.t 11)), m 13 1, o 14
 (.call 32 [.t 12, .t 13]), m 1 14]) (.seq (.seq (.reg [m 15 1, o 16 (.bin .lss (.t 15) (i 0))]) (.cond (.t 16) (.seq (.reg [o 4 (.mov (i (-1)))]) (.ret)) (.skip))) (.seq (.reg [o
 17 (.faddr 6 (.t 2)), l 18 17, m 19 1, o 20 (.call 33 [.t 18, .t 19]), m 1 20]) (.seq (.seq (.reg [m 21 1, o 22 (.bin .lss (.t 21) (i 0))]) (.cond (.t 22) (.seq (.reg [o 4 (.mov (i
 (-1)))]) (.ret)) (.skip))) (.seq (.reg [o 23 (.faddr 7 (.t 2)), l 24 23, m 25 1, o 26 (.call 34 [.t 24, .t 25]), m 1 26]) (.seq (.seq (.reg [m 27 1, o 28 (.bin .lss (.t 27) (i
 0))]) (.cond (.t 28) (.seq (.reg [o 4 (.mov (i (-1)))]) (.ret)) (.skip))) (.seq (.reg [m 29 1, m 4 29]) (.ret))))))))))
theorem ok9 : chkFn Tryz.prog 9 ir9 2 [.t 4] = true := by kernel_rfl
def ir11 : PC := .seq (.reg [o 1 (.box (.t 0)), o 2 (.alloc [.emp 6, .val (.str ⟨#[]⟩), .emp 1, .emp 2, .val (.int .i64 0), .val (.int .i64 0), .emp 3, .emp 7])]) (.seq (.reg [o 3
 (.alloc [.emp 6, .val (.str ⟨#[]⟩), .emp 1, .emp 2, .val (.int .i64 0), .val (.int .i64 0), .emp 3, .emp 7])]) (.seq (.reg [o 4 (.faddr 0 (.t 1)), l 5 4, o 6 (.call 37 [.t 5]), o 7
 (.faddr 0 (.t 3)), n (.store 1 (.t 7) (.t 6))]) (.seq (.reg [o 8 (.faddr 1 (.t 1)), o 9 (.load true 3 (.t 8)), o 10 (.call 38 [.t 9]), o 11 (.faddr 1 (.t 3)), n (.store 3 (.t 11)
 (.t 10))]) (.seq (.reg [o 12 (.faddr 4 (.t 1)), l 13 12, o 14 (.faddr 4 (.t 3)), n (.store 1 (.t 14) (.t 13))]) (.seq (.reg [o 15 (.faddr 5 (.t 1)), l 16 15, o 17 (.faddr 5 (.t
 3)), n (.store 1 (.t 17) (.t 16))]) (.seq (.reg [o 18 (.faddr 6 (.t 1)), l 19 18, o 20 (.call 39 [.t 19]), o 21 (.faddr 6 (.t 3)), n (.store 1 (.t 21) (.t 20))]) (.seq (.reg [o 22
 (.faddr 7 (.t 1)), l 23 22, o 24 (.call 40 [.t 23]), o 25 (.faddr 7 (.t 3)), n (.store 1 (.t 25) (.t 24))]) (.seq (.reg [o 26 (.load true 8 (.t 3)), n (.store 8 (.t 2) (.t 26))])
 (.ret)))))))))
theorem ok11 : chkFn Tryz.prog 11 ir11 1 [.c 2 true 8] = true := by kernel_rfl
def ir13 : PC := .seq (.reg [o 2 (.box (.t 0)), o 3 (.box (.t 1)), o 4 (.mov F)]) (.seq (.seq (.reg [o 5 (.faddr 0 (.t 2)), l 6 5, o 7 (.faddr 0 (.t 3)), l 8 7, o 9 (.call 43 [.t 6,
 .t 8]), o 10 (.un .not (.t 9))]) (.cond (.t 10) (.seq (.reg [o 4 (.mov F)]) (.ret)) (.skip))) (.seq (.seq (.reg [o 11 (.faddr 1 (.t 2)), o 12 (.load true 3 (.t 11)), o 13 (.faddr 1
 (.t 3)), o 14 (.load true 3 (.t 13)), o 15 (.call 44 [.t 12, .t 14]), o 16 (.un .not (.t 15))]) (.cond (.t 16) (.seq (.reg [o 4 (.mov F)]) (.ret)) (.skip))) (.seq (.seq (.reg [o 17
 (.faddr 4 (.t 2)), l 18 17, o 19 (.faddr 4 (.t 3)), l 20 19, o 21 (.bin .neq (.t 18) (.t 20))]) (.cond (.t 21) (.seq (.reg [o 4 (.mov F)]) (.ret)) (.skip))) (.seq (.seq (.reg [o 22
 (.faddr 5 (.t 2)), l 23 22, o 24 (.faddr 5 (.t 3)), l 25 24, o 26 (.bin .neq (.t 23) (.t 25))]) (.cond (.t 26) (.seq (.reg [o 4 (.mov F)]) (.ret)) (.skip))) (.seq (.seq (.reg [o 27
 (.faddr 6 (.t 2)), l 28 27, o 29 (.faddr 6 (.t 3)), l 30 29, o 31 (.call 18 [.t 28, .t 30]), o 32 (.un .not (.t 31))]) (.cond (.t 32) (.seq (.reg [o 4 (.mov F)]) (.ret)) (.skip)))
 (.seq (.seq (.reg [o 33 (.faddr 7 (.t 2)), l 34 33, o 35 (.faddr 7 (.t 3)), l 36 35, o 37 (.call 45 [.t 34, .t 36]), o 38 (.un .not (.t 37))]) (.cond (.t 38) (.seq (.reg [o 4 (.mov
 F)]) (.ret)) (.skip))) (.seq (.reg [o 4 (.mov T)]) (.ret))))))))
theorem ok13 : chkFn Tryz.prog 13 ir13 2 [.t 4] = true := by kernel_rfl
end Go.Proofs
end
section
set_option maxRecDepth 100000
namespace Go.Proofs
open Go.PW Go.PW.I
def ir152 : PC := .seq (.reg [o 1 (.box (.t 0)), o 2 (.mov F)]) (.seq (.reg [o 3 (.faddr 0 (.t 1)), l 4 3, o 5 (.call 56 [.t 4, .k (.val (.int .i64 1)), .k (.val (.int .i64
 1000000))]), m 6 5, g 7 6 true (.faddr 1 (.t 1)), g 8 6 true (.load false 1 (.t 7)), g 9 6 true (.call 56 [.t 8, .k (.val (.int .i64 0)), .k (.val (.int .i64 1000000))]), o 10
 (.pick (.t 6) (.t 9) F), m 11 10, g 12 11 true (.faddr 2 (.t 1)), g 13 11 true (.load false 1 (.t 12)), g 14 11 true (.call 56 [.t 13, .k (.val (.int .i64 0)), .k (.val (.int .i64
 3))]), o 15 (.pick (.t 11) (.t 14) F), m 16 15, g 17 16 true (.faddr 3 (.t 1)), g 18 16 true (.load false 1 (.t 17)), g 19 16 true (.lens (.t 18)), g 20 16 true (.call 56 [.t 19,
 .k (.val (.int .i64 1)), .k (.val (.int .i64 8000))]), o 21 (.pick (.t 16) (.t 20) F), m 2 21]) (.ret))
theorem ok152 : chkFn Tryz.prog 152 ir152 1 [.t 2] = true := by kernel_rfl
def ir114 : PC := .seq (.reg [o 1 (.box (.t 0)), o 2 (.mov F)]) (.seq (.seq (.reg [o 5 (.faddr 0 (.t 1)), l 6 5, o 7 (.len (.t 6)), o 8 (.bin .gtr (.t 7) (i 5)), m 9 8, g 10 9 false
 (.faddr 1 (.t 1)), g 11 9 false (.load false 1 (.t 10)), g 12 9 false (.len (.t 11)), g 13 9 false (.bin .gtr (.t 12) (i 6)), o 14 (.pick (.t 9) T (.t 13))]) (.cond (.t 14) (.seq
 (.reg [o 2 (.mov F)]) (.ret)) (.skip))) (.seq (.seq (.reg [o 3 (.mov (i 0))]) (.block 0 (.loop (.ghost (.seq (.seq (.reg [m 15 3, o 16 (.faddr 0 (.t 1)), l 17 16, o 18 (.len (.t
 17)), o 19 (.bin .lss (.t 15) (.t 18))]) (.cond (.t 19) (.skip) (.exit 0))) (.seq (.block 1 (.seq (.draw [o 22 (.faddr 0 (.t 1)), l 23 22, m 24 3, o 25 (.iaddr 4 (.t 23) (.t 24)),
 o 26 (.load true 4 (.t 25)), o 27 (.call 152 [.t 26]), o 28 (.un .not (.t 27)), m 29 28, g 30 29 false (.mov (.t 3)), g 31 29 false (.bin .gtr (.t 30) (i 0)), g 32 29 false (.mov
 (.t 31)), g 33 32 true (.faddr 0 (.t 1)), g 34 32 true (.load false 1 (.t 33)), g 35 32 true (.mov (.t 3)), g 36 32 true (.iaddr 4 (.t 34) (.t 35)), g 37 32 true (.faddr 0 (.t
 36)), g 38 32 true (.load false 1 (.t 37)), g 39 32 true (.faddr 0 (.t 1)), g 40 32 true (.load false 1 (.t 39)), g 41 32 true (.mov (.t 3)), g 42 32 true (.bin .sub (.t 41) (i
 1)), g 43 32 true (.iaddr 4 (.t 40) (.t 42)), g 44 32 true (.faddr 0 (.t 43)), g 45 32 true (.load false 1 (.t 44)), g 46 32 true (.bin .leq (.t 38) (.t 45)), g 47 32 true (.mov
 (.t 46)), g 48 47 false (.faddr 0 (.t 1)), g 49 47 false (.load false 1 (.t 48)), g 50 47 false (.mov (.t 3)), g 51 47 false (.iaddr 4 (.t 49) (.t 50)), g 52 47 false (.faddr 1 (.t
 51)), g 53 47 false (.load false 1 (.t 52)), g 54 47 false (.faddr 0 (.t 1)), g 55 47 false (.load false 1 (.t 54)), g 56 47 false (.mov (.t 3)), g 57 47 false (.bin .sub (.t 56)
 (i 1)), g 58 47 false (.iaddr 4 (.t 55) (.t 57)), g 59 47 false (.faddr 1 (.t 58)), g 60 47 false (.load false 1 (.t 59)), g 61 47 false (.bin .lss (.t 53) (.t 60)), g 62 32 true
 (.pick (.t 47) T (.t 61)), g 63 29 false (.pick (.t 32) (.t 62) F), o 64 (.pick (.t 29) T (.t 63))] []) (.cond (.t 64) (.seq (.reg [o 2 (.mov F)]) (.ret)) (.skip)))) (.reg [m 20 3,
 o 21 (.bin .add (.t 20) (i 1)), m 3 21]))))))) (.seq (.seq (.reg [o 4 (.mov (i 0))]) (.block 2 (.loop (.ghost (.seq (.seq (.reg [m 65 4, o 66 (.faddr 1 (.t 1)), l 67 66, o 68 (.len
 (.t 67)), o 69 (.bin .lss (.t 65) (.t 68))]) (.cond (.t 69) (.skip) (.exit 2))) (.seq (.block 3 (.seq (.draw [o 72 (.faddr 1 (.t 1)), l 73 72, m 74 4, o 75 (.iaddr 1 (.t 73) (.t
 74)), l 76 75, o 77 (.lens (.t 76)), o 78 (.call 56 [.t 77, .k (.val (.int .i64 1)), .k (.val (.int .i64 8000))]), o 79 (.un .not (.t 78)), m 80 79, g 81 80 false (.faddr 1 (.t
 1)), g 82 80 false (.load false 1 (.t 81)), g 83 80 false (.mov (.t 4)), g 84 80 false (.slc 1 (.t 82) none (some (.t 83))), g 85 80 false (.faddr 1 (.t 1)), g 86 80 false (.load
 false 1 (.t 85)), g 87 80 false (.mov (.t 4)), g 88 80 false (.iaddr 1 (.t 86) (.t 87)), g 89 80 false (.load false 1 (.t 88)), g 90 80 false (.call 149 [.t 84, .t 89]), o 91
 (.pick (.t 80) T (.t 90))] []) (.cond (.t 91) (.seq (.reg [o 2 (.mov F)]) (.ret)) (.skip)))) (.reg [m 70 4, o 71 (.bin .add (.t 70) (i 1)), m 4 71]))))))) (.seq (.reg [o 2 (.mov
 T)]) (.ret)))))
theorem ok114 : chkFn Tryz.prog 114 ir114 1 [.t 2] = true := by kernel_rfl
def ir72 : PC := .seq (.reg [o 4 (.mov (i 0))]) (.seq (.seq (.reg [o 5 (.mov (i 0))]) (.block 0 (.loop (.ghost (.seq (.seq (.reg [m 6 5, m 7 0, o 8 (.len (.t 7)), o 9 (.bin .lss (.t
 6) (.t 8))]) (.cond (.t 9) (.skip) (.exit 0))) (.seq (.block 1 (.seq (.reg [m 12 0, m 13 5, o 14 (.iaddr 6 (.t 12) (.t 13)), o 15 (.faddr 0 (.t 14)), o 16 (.faddr 0 (.t 15)), l 17
 16, m 18 1, o 19 (.bin .eql (.t 17) (.t 18))]) (.cond (.t 19) (.seq (.reg [m 20 5, m 4 20]) (.ret)) (.skip)))) (.reg [m 10 5, o 11 (.bin .add (.t 10) (i 1)), m 5 11]))))))) (.seq
 (.reg [o 4 (.mov (i (-1)))]) (.ret)))
theorem ok72 : chkFn Tryz.prog 72 ir72 2 [.t 4] = true := by kernel_rfl
def ir73 : PC := .seq (.reg [o 2 (.box (.t 0)), o 3 (.box (.t 1)), o 4 (.mov F)]) (.seq (.seq (.reg [o 8 (.faddr 0 (.t 3)), o 9 (.load true 3 (.t 8)), o 10 (.call 112 [.t 9]), o 11
 (.un .not (.t 10)), m 12 11, g 13 12 false (.faddr 3 (.t 3)), g 14 12 false (.load false 1 (.t 13)), g 15 12 false (.call 113 [.t 14]), g 16 12 false (.un .not (.t 15)), o 17
 (.pick (.t 12) T (.t 16)), m 18 17, g 19 18 false (.faddr 3 (.t 3)), g 20 18 false (.load false 1 (.t 19)), g 21 18 false (.len (.t 20)), g 22 18 false (.faddr 0 (.t 3)), g 23 18
 false (.faddr 2 (.t 22)), g 24 18 false (.load false 1 (.t 23)), g 25 18 false (.len (.t 24)), g 26 18 false (.bin .neq (.t 21) (.t 25)), o 27 (.pick (.t 18) T (.t 26)), m 28 27, g
 29 28 false (.faddr 4 (.t 3)), g 30 28 false (.load true 2 (.t 29)), g 31 28 false (.call 114 [.t 30]), g 32 28 false (.un .not (.t 31)), o 33 (.pick (.t 28) T (.t 32))]) (.cond
 (.t 33) (.seq (.reg [o 4 (.mov F)]) (.ret)) (.skip))) (.seq (.seq (.reg [o 5 (.mov (i 0))]) (.block 0 (.loop (.ghost (.seq (.seq (.reg [m 34 5, o 35 (.faddr 3 (.t 3)), l 36 35, o
 37 (.len (.t 36)), o 38 (.bin .lss (.t 34) (.t 37))]) (.cond (.t 38) (.skip) (.exit 0))) (.seq (.block 1 (.seq (.draw [o 41 (.faddr 3 (.t 3)), l 42 41, m 43 5, o 44 (.iaddr 6 (.t
 42) (.t 43)), o 45 (.faddr 0 (.t 44)), o 46 (.load true 3 (.t 45)), o 47 (.faddr 0 (.t 3)), o 48 (.faddr 2 (.t 47)), l 49 48, m 50 5, o 51 (.iaddr 3 (.t 49) (.t 50)), o 52 (.load
 true 3 (.t 51)), o 53 (.eqs true [0, 2, 2] (.t 46) (.t 52))] []) (.cond (.t 53) (.seq (.reg [o 4 (.mov F)]) (.ret)) (.skip)))) (.reg [m 39 5, o 40 (.bin .add (.t 39) (i 1)), m 5
 40]))))))) (.seq (.seq (.reg [o 6 (.mov (i 0))]) (.block 2 (.loop (.ghost (.seq (.seq (.reg [m 54 6, o 55 (.faddr 4 (.t 3)), o 56 (.faddr 0 (.t 55)), l 57 56, o 58 (.len (.t 57)),
 o 59 (.bin .lss (.t 54) (.t 58))]) (.cond (.t 59) (.skip) (.exit 2))) (.seq (.block 3 (.seq (.reg [o 62 (.faddr 4 (.t 3)), o 63 (.faddr 0 (.t 62)), l 64 63, m 65 6, o 66 (.iaddr 4
 (.t 64) (.t 65)), o 67 (.load true 4 (.t 66)), o 7 (.alloc [.val (.int .i64 0), .val (.int .i64 0), .val (.int .i64 0), .val (.str ⟨#[]⟩)]), n (.store 4 (.t 7) (.t 67))]) (.seq
 (.reg [o 68 (.faddr 0 (.t 7)), l 69 68, o 70 (.faddr 5 (.t 2)), l 71 70, o 72 (.bin .geq (.t 69) (.t 71)), m 73 72, g 74 73 false (.faddr 1 (.t 7)), g 75 73 false (.load false 1
 (.t 74)), g 76 73 false (.faddr 4 (.t 2)), g 77 73 false (.load false 1 (.t 76)), g 78 73 false (.bin .gtr (.t 75) (.t 77)), o 79 (.pick (.t 73) T (.t 78))]) (.cond (.t 79) (.seq
 (.reg [o 4 (.mov F)]) (.ret)) (.skip))))) (.reg [m 60 6, o 61 (.bin .add (.t 60) (i 1)), m 6 61]))))))) (.seq (.reg [o 4 (.mov T)]) (.ret)))))
theorem ok73 : chkFn Tryz.prog 73 ir73 2 [.t 4] = true := by kernel_rfl
def ir74 : PC := .seq (.reg [o 2 (.box (.t 0)), o 3 (.box (.t 1)), o 4 (.mov F)]) (.seq (.seq (.reg [o 6 (.faddr 0 (.t 3)), l 7 6, o 8 (.faddr 4 (.t 2)), l 9 8, o 10 (.call 56 [.t
 7, .k (.val (.int .i64 0)), .t 9]), o 11 (.un .not (.t 10)), m 12 11, g 13 12 false (.faddr 1 (.t 3)), g 14 12 false (.load false 1 (.t 13)), g 15 12 false (.call 56 [.t 14, .k
 (.val (.int .i64 100)), .k (.val (.int .i64 599))]), g 16 12 false (.un .not (.t 15)), o 17 (.pick (.t 12) T (.t 16)), m 18 17, g 19 18 false (.faddr 2 (.t 3)), g 20 18 false
 (.load false 1 (.t 19)), g 21 18 false (.call 115 [.t 20]), g 22 18 false (.un .not (.t 21)), o 23 (.pick (.t 18) T (.t 22)), m 24 23, g 25 24 false (.faddr 3 (.t 3)), g 26 24
 false (.load false 1 (.t 25)), g 27 24 false (.lens (.t 26)), g 28 24 false (.bin .gtr (.t 27) (i 100)), o 29 (.pick (.t 24) T (.t 28)), m 30 29, g 31 30 false (.faddr 4 (.t 3)), g
 32 30 false (.load false 1 (.t 31)), g 33 30 false (.len (.t 32)), g 34 30 false (.call 56 [.t 33, .k (.val (.int .i64 1)), .k (.val (.int .i64 3))]), g 35 30 false (.un .not (.t
 34)), o 36 (.pick (.t 30) T (.t 35)), m 37 36, g 38 37 false (.faddr 5 (.t 3)), g 39 37 false (.load false 1 (.t 38)), g 40 37 false (.lens (.t 39)), g 41 37 false (.bin .gtr (.t
 40) (i 65536)), o 42 (.pick (.t 37) T (.t 41))]) (.cond (.t 42) (.seq (.reg [o 4 (.mov F)]) (.ret)) (.skip))) (.seq (.seq (.reg [o 5 (.mov (i 0))]) (.block 0 (.loop (.ghost (.seq
 (.seq (.reg [m 43 5, o 44 (.faddr 4 (.t 3)), l 45 44, o 46 (.len (.t 45)), o 47 (.bin .lss (.t 43) (.t 46))]) (.cond (.t 47) (.skip) (.exit 0))) (.seq (.block 1 (.seq (.draw [o 50
 (.faddr 4 (.t 3)), l 51 50, m 52 5, o 53 (.iaddr 1 (.t 51) (.t 52)), l 54 53, o 55 (.faddr 5 (.t 2)), l 56 55, o 57 (.bin .sub (.t 56) (i 1)), o 58 (.call 56 [.t 54, .k (.val (.int
 .i64 1)), .t 57]), o 59 (.un .not (.t 58)), m 60 59, g 61 60 false (.mov (.t 5)), g 62 60 false (.bin .gtr (.t 61) (i 0)), g 63 60 false (.mov (.t 62)), g 64 63 true (.faddr 4 (.t
 3)), g 65 63 true (.load false 1 (.t 64)), g 66 63 true (.mov (.t 5)), g 67 63 true (.iaddr 1 (.t 65) (.t 66)), g 68 63 true (.load false 1 (.t 67)), g 69 63 true (.faddr 4 (.t
 3)), g 70 63 true (.load false 1 (.t 69)), g 71 63 true (.mov (.t 5)), g 72 63 true (.bin .sub (.t 71) (i 1)), g 73 63 true (.iaddr 1 (.t 70) (.t 72)), g 74 63 true (.load false 1
 (.t 73)), g 75 63 true (.bin .leq (.t 68) (.t 74)), g 76 60 false (.pick (.t 63) (.t 75) F), o 77 (.pick (.t 60) T (.t 76))] []) (.cond (.t 77) (.seq (.reg [o 4 (.mov F)]) (.ret))
 (.skip)))) (.reg [m 48 5, o 49 (.bin .add (.t 48) (i 1)), m 5 49]))))))) (.seq (.reg [o 4 (.mov T)]) (.ret))))
theorem ok74 : chkFn Tryz.prog 74 ir74 2 [.t 4] = true := by kernel_rfl
def ir35 : PC := .seq (.reg [o 1 (.box (.t 0)), o 2 (.mov F)]) (.seq (.seq (.reg [o 7 (.faddr 0 (.t 1)), l 8 7, o 9 (.len (.t 8)), o 10 (.bin .gtr (.t 9) (i 5)), m 11 10, g 12 11
 false (.faddr 1 (.t 1)), g 13 11 false (.load true 3 (.t 12)), g 14 11 false (.call 71 [.t 13]), g 15 11 false (.un .not (.t 14)), o 16 (.pick (.t 11) T (.t 15)), m 17 16, g 18 17
 false (.faddr 4 (.t 1)), g 19 17 false (.load false 1 (.t 18)), g 20 17 false (.call 56 [.t 19, .k (.val (.int .i64 0)), .k (.val (.int .i64 1000000))]), g 21 17 false (.un .not
 (.t 20)), o 22 (.pick (.t 17) T (.t 21)), m 23 22, g 24 23 false (.faddr 5 (.t 1)), g 25 23 false (.load false 1 (.t 24)), g 26 23 false (.call 56 [.t 25, .k (.val (.int .i64 1)),
 .k (.val (.int .i64 1000000))]), g 27 23 false (.un .not (.t 26)), o 28 (.pick (.t 23) T (.t 27)), m 29 28, g 30 29 false (.faddr 6 (.t 1)), g 31 29 false (.load false 1 (.t 30)),
 g 32 29 false (.len (.t 31)), g 33 29 false (.bin .gtr (.t 32) (i 4096)), o 34 (.pick (.t 29) T (.t 33)), m 35 34, g 36 35 false (.faddr 7 (.t 1)), g 37 35 false (.load false 1 (.t
 36)), g 38 35 false (.len (.t 37)), g 39 35 false (.bin .gtr (.t 38) (i 4096)), o 40 (.pick (.t 35) T (.t 39))]) (.cond (.t 40) (.seq (.reg [o 2 (.mov F)]) (.ret)) (.skip))) (.seq
 (.seq (.reg [o 3 (.mov (i 0))]) (.block 0 (.loop (.ghost (.seq (.seq (.reg [m 41 3, o 42 (.faddr 0 (.t 1)), l 43 42, o 44 (.len (.t 43)), o 45 (.bin .lss (.t 41) (.t 44))]) (.cond
 (.t 45) (.skip) (.exit 0))) (.seq (.block 1 (.seq (.draw [o 48 (.faddr 0 (.t 1)), l 49 48, o 50 (.faddr 0 (.t 1)), l 51 50, m 52 3, o 53 (.iaddr 6 (.t 51) (.t 52)), o 54 (.faddr 0
 (.t 53)), o 55 (.faddr 0 (.t 54)), l 56 55, o 57 (.call 72 [.t 49, .t 56]), m 58 3, o 59 (.bin .neq (.t 57) (.t 58)), m 60 59, g 61 60 false (.load true 8 (.t 1)), g 62 60 false
 (.faddr 0 (.t 1)), g 63 60 false (.load false 1 (.t 62)), g 64 60 false (.mov (.t 3)), g 65 60 false (.iaddr 6 (.t 63) (.t 64)), g 66 60 false (.load true 6 (.t 65)), g 67 60 false
 (.call 73 [.t 61, .t 66]), g 68 60 false (.un .not (.t 67)), o 69 (.pick (.t 60) T (.t 68))] []) (.cond (.t 69) (.seq (.reg [o 2 (.mov F)]) (.ret)) (.skip)))) (.reg [m 46 3, o 47
 (.bin .add (.t 46) (i 1)), m 3 47]))))))) (.seq (.seq (.reg [o 4 (.mov (i 0))]) (.block 2 (.loop (.ghost (.seq (.seq (.reg [m 70 4, o 71 (.faddr 6 (.t 1)), l 72 71, o 73 (.len (.t
 72)), o 74 (.bin .lss (.t 70) (.t 73))]) (.cond (.t 74) (.skip) (.exit 2))) (.seq (.block 3 (.seq (.reg [o 77 (.faddr 6 (.t 1)), l 78 77, m 79 4, o 80 (.iaddr 3 (.t 78) (.t 79)), o
 81 (.load true 3 (.t 80)), o 5 (.alloc [.val (.int .i64 0), .val (.int .i64 0), .val (.int .i64 0)]), n (.store 3 (.t 5) (.t 81))]) (.seq (.draw [o 82 (.faddr 0 (.t 5)), l 83 82, o
 84 (.call 56 [.t 83, .k (.val (.int .i64 1)), .k (.val (.int .i64 7))]), o 85 (.un .not (.t 84)), m 86 85, g 87 86 false (.faddr 1 (.t 5)), g 88 86 false (.load false 1 (.t 87)), g
 89 86 false (.faddr 5 (.t 1)), g 90 86 false (.load false 1 (.t 89)), g 91 86 false (.bin .sub (.t 90) (i 1)), g 92 86 false (.call 56 [.t 88, .k (.val (.int .i64 1)), .t 91]), g
 93 86 false (.un .not (.t 92)), o 94 (.pick (.t 86) T (.t 93)), m 95 94, g 96 95 false (.faddr 2 (.t 5)), g 97 95 false (.load false 1 (.t 96)), g 98 95 false (.faddr 4 (.t 1)), g
 99 95 false (.load false 1 (.t 98)), g 100 95 false (.call 56 [.t 97, .k (.val (.int .i64 0)), .t 99]), g 101 95 false (.un .not (.t 100)), o 102 (.pick (.t 95) T (.t 101)), m 103
 102, g 104 103 false (.mov (.t 4)), g 105 103 false (.bin .gtr (.t 104) (i 0)), g 106 103 false (.mov (.t 105)), g 107 106 true (.faddr 2 (.t 5)), g 108 106 true (.load false 1 (.t
 107)), g 109 106 true (.faddr 6 (.t 1)), g 110 106 true (.load false 1 (.t 109)), g 111 106 true (.mov (.t 4)), g 112 106 true (.bin .sub (.t 111) (i 1)), g 113 106 true (.iaddr 3
 (.t 110) (.t 112)), g 114 106 true (.faddr 2 (.t 113)), g 115 106 true (.load false 1 (.t 114)), g 116 106 true (.bin .lss (.t 108) (.t 115)), g 117 103 false (.pick (.t 106) (.t
 116) F), o 118 (.pick (.t 103) T (.t 117))] []) (.cond (.t 118) (.seq (.reg [o 2 (.mov F)]) (.ret)) (.skip))))) (.reg [m 75 4, o 76 (.bin .add (.t 75) (i 1)), m 4 76]))))))) (.seq
 (.seq (.reg [o 6 (.mov (i 0))]) (.block 4 (.loop (.ghost (.seq (.seq (.reg [m 119 6, o 120 (.faddr 7 (.t 1)), l 121 120, o 122 (.len (.t 121)), o 123 (.bin .lss (.t 119) (.t
 122))]) (.cond (.t 123) (.skip) (.exit 4))) (.seq (.block 5 (.seq (.draw [o 126 (.load true 8 (.t 1)), o 127 (.faddr 7 (.t 1)), l 128 127, m 129 6, o 130 (.iaddr 7 (.t 128) (.t
 129)), o 131 (.load true 7 (.t 130)), o 132 (.call 74 [.t 126, .t 131]), o 133 (.un .not (.t 132))] []) (.cond (.t 133) (.seq (.reg [o 2 (.mov F)]) (.ret)) (.skip)))) (.reg [m 124
 6, o 125 (.bin .add (.t 124) (i 1)), m 6 125]))))))) (.seq (.reg [o 2 (.mov T)]) (.ret))))))
theorem ok35 : chkFn Tryz.prog 35 ir35 1 [.t 2] = true := by kernel_rfl
end Go.Proofs
end
