/- El: merged out of IRkk, KSy, KJm, KJn. -/
import Derived.Test.YtnopddgnkefljaaGreatDoorPWv
import Derived.Test.YtnopddgnkefljaaGreatDoorChecked
import Derived.KernelRfl
import Derived.Test.YtnopddgnkefljaaGreatDoorCa
import Derived.Test.YtnopddgnkefljaaGreatDoorAc
import Derived.Test.YtnopddgnkefljaaGreatDoorEk
import Derived.Test.YtnopddgnkefljaaGreatDoorCb
import Derived.Test.YtnopddgnkefljaaGreatDoorEc

/- Functions of the seat as data. MADE BY PROGRAM (print_ir.py). -/
section
set_option maxRecDepth 100000
namespace Go.Proofs
open Go.PW Go.PW.I

/-- spec.l05OK -/
def ir35 : PC := .seq (.reg [o 1 (.box (.t 0)), o 2 (.mov F)]) (.seq (.reg [o 5 (.faddr 0 (.t 1)), l 6 5, o 7 (.faddr 1 (.t 1)), l 8 7, o 9 (.faddr 2 (.t 1)), l 10 9, o 11 (.faddr 3
 (.t 1)), l 12 11, o 13 (.lit 9 1 [.t 6, .t 8, .t 10, .t 12]), m 3 13]) (.seq (.seq (.reg [o 4 (.mov (i 0))]) (.block 0 (.loop (.ghost (.seq (.seq (.reg [m 14 4, m 15 3, o 16 (.len
 (.t 15)), o 17 (.bin .lss (.t 14) (.t 16))]) (.cond (.t 17) (.skip) (.exit 0))) (.seq (.block 1 (.seq (.reg [m 20 3, m 21 4, o 22 (.iaddr 1 (.t 20) (.t 21)), l 23 22, o 24 (.lens
 (.t 23)), o 25 (.bin .gtr (.t 24) (i 100))]) (.cond (.t 25) (.seq (.reg [o 2 (.mov F)]) (.ret)) (.skip)))) (.reg [m 18 4, o 19 (.bin .add (.t 18) (i 1)), m 4 19]))))))) (.seq (.reg
 [o 26 (.faddr 4 (.t 1)), l 27 26, o 28 (.call 70 [.t 27]), m 29 28, g 30 29 true (.faddr 5 (.t 1)), g 31 29 true (.load false 1 (.t 30)), g 32 29 true (.lens (.t 31)), g 33 29 true
 (.bin .leq (.t 32) (i 200)), o 34 (.pick (.t 29) (.t 33) F), m 35 34, g 36 35 true (.faddr 6 (.t 1)), g 37 35 true (.load false 1 (.t 36)), g 38 35 true (.call 71 [.t 37, .k (.val
 (.int .i64 0)), .k (.val (.int .i64 9999))]), o 39 (.pick (.t 35) (.t 38) F), m 40 39, g 41 40 true (.faddr 7 (.t 1)), g 42 40 true (.load false 1 (.t 41)), g 43 40 true (.call 71
 [.t 42, .k (.val (.int .i64 0)), .k (.val (.int .i64 9999))]), o 44 (.pick (.t 40) (.t 43) F), m 2 44]) (.ret))))
theorem ok35 : chkFn Tryz.prog 35 ir35 1 [.t 2] = true := by kernel_rfl
/-- spec.l05Site -/
def ir117 : PC := .seq (.reg [o 2 (.mov (z #[]))]) (.seq (.reg [m 6 0, o 7 (.call 118 [.t 6]), m 5 7, o 8 (.ext 0 (.t 5)), o 9 (.ext 1 (.t 5)), o 3 (.alloc [.val (.str ⟨#[]⟩), .val
 (.str ⟨#[]⟩), .val (.str ⟨#[]⟩), .val (.int .i64 0), .val (.str ⟨#[]⟩), .val (.str ⟨#[]⟩), .val (.str ⟨#[]⟩), .val (.bool false), .val (.bool false)]), n (.store 9 (.t 3) (.t 8)),
 m 4 9]) (.seq (.seq (.reg [m 10 4, o 11 (.un .not (.t 10))]) (.cond (.t 11) (.seq (.reg [o 2 (.mov (z #[]))]) (.ret)) (.skip))) (.seq (.seq (.reg [o 12 (.faddr 0 (.t 3)), l 13 12,
 o 14 (.call 138 [.t 13]), o 15 (.un .not (.t 14))]) (.cond (.t 15) (.seq (.reg [o 16 (.faddr 0 (.t 3)), l 17 16, m 2 17]) (.ret)) (.skip))) (.seq (.reg [o 18 (.load true 9 (.t 3)),
 o 19 (.call 148 [.t 18]), m 2 19]) (.ret)))))
theorem ok117 : chkFn Tryz.prog 117 ir117 1 [.t 2] = true := by kernel_rfl
/-- spec.l05Blocked -/
def ir75 : PC := .seq (.reg [o 1 (.box (.t 0)), o 2 (.mov (z #[]))]) (.seq (.seq (.reg [o 3 (.lit 9 1 [.k (.val (.str ⟨#[105, 110, 108, 105, 110, 101]⟩)), .k (.val (.str ⟨#[101,
 118, 97, 108]⟩)), .k (.val (.str ⟨#[115, 101, 108, 102]⟩))]), o 4 (.faddr 2 (.t 1)), l 5 4, o 6 (.call 116 [.t 3, .t 5])]) (.cond (.t 6) (.seq (.reg [o 7 (.faddr 2 (.t 1)), l 8 7,
 m 2 8]) (.ret)) (.skip))) (.seq (.seq (.reg [o 9 (.faddr 8 (.t 1)), l 10 9]) (.cond (.t 10) (.seq (.reg [o 11 (.faddr 2 (.t 1)), l 12 11, o 13 (.call 117 [.t 12]), m 2 13]) (.ret))
 (.skip))) (.seq (.reg [o 14 (.faddr 2 (.t 1)), l 15 14, o 16 (.call 77 [.t 15]), m 2 16]) (.ret))))
theorem ok75 : chkFn Tryz.prog 75 ir75 1 [.t 2] = true := by kernel_rfl
/-- spec.l05Source -/
def ir78 : PC := .seq (.reg [o 1 (.box (.t 0)), o 2 (.mov (z #[]))]) (.seq (.reg [o 8 (.faddr 3 (.t 1)), l 9 8, o 10 (.call 118 [.t 9]), m 7 10, o 11 (.ext 0 (.t 7)), o 12 (.ext 1
 (.t 7)), o 3 (.alloc [.val (.str ⟨#[]⟩), .val (.str ⟨#[]⟩), .val (.str ⟨#[]⟩), .val (.int .i64 0), .val (.str ⟨#[]⟩), .val (.str ⟨#[]⟩), .val (.str ⟨#[]⟩), .val (.bool false), .val
 (.bool false)]), n (.store 9 (.t 3) (.t 11)), m 4 12]) (.seq (.reg [o 14 (.faddr 0 (.t 1)), l 15 14, o 16 (.call 118 [.t 15]), m 13 16, o 17 (.ext 0 (.t 13)), o 18 (.ext 1 (.t
 13)), o 5 (.alloc [.val (.str ⟨#[]⟩), .val (.str ⟨#[]⟩), .val (.str ⟨#[]⟩), .val (.int .i64 0), .val (.str ⟨#[]⟩), .val (.str ⟨#[]⟩), .val (.str ⟨#[]⟩), .val (.bool false), .val
 (.bool false)]), n (.store 9 (.t 5) (.t 17)), m 6 18]) (.seq (.seq (.reg [m 19 4, o 20 (.un .not (.t 19)), m 21 20, g 22 21 false (.mov (.t 6)), g 23 21 false (.un .not (.t 22)), o
 24 (.pick (.t 21) T (.t 23)), m 25 24, g 26 25 false (.load true 9 (.t 3)), g 27 25 false (.load true 9 (.t 5)), g 28 25 false (.call 120 [.t 26, .t 27]), g 29 25 false (.un .not
 (.t 28)), o 30 (.pick (.t 25) T (.t 29))]) (.cond (.t 30) (.seq (.reg [o 31 (.faddr 3 (.t 1)), l 32 31, o 33 (.call 117 [.t 32]), m 2 33]) (.ret)) (.skip))) (.seq (.reg [o 34
 (.load true 9 (.t 3)), o 35 (.call 119 [.t 34]), m 2 35]) (.ret)))))
theorem ok78 : chkFn Tryz.prog 78 ir78 1 [.t 2] = true := by kernel_rfl
/-- spec.l01SameOrigin -/
def ir120 : PC := .seq (.reg [o 2 (.box (.t 0)), o 3 (.box (.t 1)), o 4 (.mov F)]) (.seq (.reg [o 5 (.faddr 0 (.t 2)), l 6 5, o 7 (.call 138 [.t 6]), m 8 7, g 9 8 true (.faddr 0 (.t
 2)), g 10 8 true (.load false 1 (.t 9)), g 11 8 true (.faddr 0 (.t 3)), g 12 8 true (.load false 1 (.t 11)), g 13 8 true (.bin .eql (.t 10) (.t 12)), o 14 (.pick (.t 8) (.t 13) F),
 m 15 14, g 16 15 true (.faddr 2 (.t 2)), g 17 15 true (.load false 1 (.t 16)), g 18 15 true (.faddr 2 (.t 3)), g 19 15 true (.load false 1 (.t 18)), g 20 15 true (.bin .eql (.t 17)
 (.t 19)), o 21 (.pick (.t 15) (.t 20) F), m 22 21, g 23 22 true (.faddr 3 (.t 2)), g 24 22 true (.load false 1 (.t 23)), g 25 22 true (.faddr 3 (.t 3)), g 26 22 true (.load false 1
 (.t 25)), g 27 22 true (.bin .eql (.t 24) (.t 26)), o 28 (.pick (.t 22) (.t 27) F), m 4 28]) (.ret))
theorem ok120 : chkFn Tryz.prog 120 ir120 2 [.t 4] = true := by kernel_rfl
/-- spec.l01Strip -/
def ir119 : PC := .seq (.reg [o 1 (.box (.t 0)), o 2 (.mov (z #[]))]) (.seq (.seq (.reg [o 3 (.faddr 0 (.t 1)), l 4 3, o 5 (.call 138 [.t 4]), o 6 (.un .not (.t 5))]) (.cond (.t 6)
 (.seq (.reg [o 7 (.faddr 0 (.t 1)), l 8 7, m 2 8]) (.ret)) (.skip))) (.seq (.reg [o 9 (.faddr 1 (.t 1)), n (.store 1 (.t 9) (z #[]))]) (.seq (.reg [o 10 (.faddr 8 (.t 1)), n
 (.store 1 (.t 10) F)]) (.seq (.reg [o 11 (.faddr 6 (.t 1)), n (.store 1 (.t 11) (z #[]))]) (.seq (.reg [o 12 (.load true 9 (.t 1)), o 13 (.call 139 [.t 12]), m 2 13]) (.ret))))))
theorem ok119 : chkFn Tryz.prog 119 ir119 1 [.t 2] = true := by kernel_rfl
/-- spec.l01StripText -/
def ir77 : PC := .seq (.reg [o 2 (.mov (z #[]))]) (.seq (.reg [m 6 0, o 7 (.call 118 [.t 6]), m 5 7, o 8 (.ext 0 (.t 5)), o 9 (.ext 1 (.t 5)), o 3 (.alloc [.val (.str ⟨#[]⟩), .val
 (.str ⟨#[]⟩), .val (.str ⟨#[]⟩), .val (.int .i64 0), .val (.str ⟨#[]⟩), .val (.str ⟨#[]⟩), .val (.str ⟨#[]⟩), .val (.bool false), .val (.bool false)]), n (.store 9 (.t 3) (.t 8)),
 m 4 9]) (.seq (.seq (.reg [m 10 4, o 11 (.un .not (.t 10))]) (.cond (.t 11) (.seq (.reg [o 2 (.mov (z #[]))]) (.ret)) (.skip))) (.seq (.reg [o 12 (.load true 9 (.t 3)), o 13 (.call
 119 [.t 12]), m 2 13]) (.ret))))
theorem ok77 : chkFn Tryz.prog 77 ir77 1 [.t 2] = true := by kernel_rfl
def ir37_from4 : PC := .seq (.draw [o 14 (.load true 9 (.t 1)), o 15 (.call 75 [.t 14]), o 16 (.call 74 [.t 15]), o 17 (.faddr 7 (.t 1)), l 18 17, o 19 (.call 76 [.t 18]), o 20
 (.faddr 0 (.t 1)), l 21 20, o 22 (.call 77 [.t 21]), o 23 (.call 74 [.t 22]), o 24 (.faddr 4 (.t 1)), l 25 24, o 26 (.call 74 [.t 25]), o 27 (.faddr 6 (.t 1)), l 28 27, o 29 (.call
 76 [.t 28]), o 30 (.faddr 1 (.t 1)), l 31 30, o 32 (.call 77 [.t 31]), o 33 (.call 74 [.t 32]), m 34 4, o 35 (.call 74 [.t 34]), o 36 (.load true 9 (.t 1)), o 37 (.call 78 [.t
 36]), o 38 (.call 74 [.t 37])] [o 39 (.lit 40 5 [.t 16, .t 19, .t 23, .t 26, .t 29, .t 33, .t 35, .t 38]), o 40 (.faddr 4 (.t 3)), n (.store 1 (.t 40) (.t 39))]) (.seq (.reg [o 41
 (.load true 5 (.t 3)), n (.store 5 (.t 2) (.t 41))]) (.ret))
/-- spec.l05Body -/
def ir37 : PC := .seq (.reg [o 1 (.box (.t 0)), o 2 (.alloc [.val (.int .i64 0), .val (.int .i64 0), .val (.str ⟨#[]⟩), .emp 1, .emp 5])]) (.seq (.reg [o 5 (.lit 9 1 [.k (.val (.str
 ⟨#[98, 108, 111, 99, 107, 101, 100, 85, 82, 76]⟩)), .k (.val (.str ⟨#[99, 111, 108, 117, 109, 110, 78, 117, 109, 98, 101, 114]⟩)), .k (.val (.str ⟨#[100, 111, 99, 117, 109, 101,
 110, 116, 85, 82, 76]⟩)), .k (.val (.str ⟨#[101, 102, 102, 101, 99, 116, 105, 118, 101, 68, 105, 114, 101, 99, 116, 105, 118, 101]⟩)), .k (.val (.str ⟨#[108, 105, 110, 101, 78,
 117, 109, 98, 101, 114]⟩)), .k (.val (.str ⟨#[114, 101, 102, 101, 114, 114, 101, 114]⟩)), .k (.val (.str ⟨#[115, 97, 109, 112, 108, 101]⟩)), .k (.val (.str ⟨#[115, 111, 117, 114,
 99, 101, 70, 105, 108, 101]⟩))]), o 6 (.build [.val (.int .i64 0), .val (.int .i64 0), .val (.str ⟨#[]⟩), .emp 1, .emp 5] [(0, 1, .k (.val (.int .i64 6))), (3, 1, .t 5)]), o 3
 (.alloc [.val (.int .i64 0), .val (.int .i64 0), .val (.str ⟨#[]⟩), .emp 1, .emp 5]), n (.store 5 (.t 3) (.t 6))]) (.seq (.reg [o 7 (.faddr 5 (.t 1)), l 8 7, m 4 8]) (.seq (.seq
 (.reg [m 9 4, o 10 (.lens (.t 9)), o 11 (.bin .gtr (.t 10) (i 40))]) (.cond (.t 11) (.reg [m 12 4, o 13 (.slc 0 (.t 12) none (some (i 40))), m 4 13]) (.skip))) (ir37_from4))))
theorem ok37 : chkFn Tryz.prog 37 ir37 1 [.c 2 true 5] = true := by kernel_rfl
/-- impl.ViolationOK -/
def ir38 : PC := .seq (.reg [o 1 (.box (.t 0)), o 2 (.mov F)]) (.seq (.reg [o 3 (.faddr 0 (.t 1)), l 4 3, o 5 (.lens (.t 4)), o 6 (.faddr 1 (.t 1)), l 7 6, o 8 (.lens (.t 7)), o 9
 (.faddr 2 (.t 1)), l 10 9, o 11 (.lens (.t 10)), o 12 (.faddr 3 (.t 1)), l 13 12, o 14 (.lens (.t 13)), o 15 (.mx4 (.t 5) (.t 8) (.t 11) (.t 14)), o 16 (.bin .leq (.t 15) (i 100)),
 m 17 16, g 18 17 true (.faddr 4 (.t 1)), g 19 17 true (.load false 1 (.t 18)), g 20 17 true (.call 79 [.t 19]), o 21 (.pick (.t 17) (.t 20) F), m 22 21, g 23 22 true (.faddr 5 (.t
 1)), g 24 22 true (.load false 1 (.t 23)), g 25 22 true (.lens (.t 24)), g 26 22 true (.bin .leq (.t 25) (i 200)), o 27 (.pick (.t 22) (.t 26) F), m 28 27, g 29 28 true (.faddr 6
 (.t 1)), g 30 28 true (.load false 1 (.t 29)), g 31 28 true (.call 80 [.t 30, .k (.val (.int .i64 0)), .k (.val (.int .i64 9999))]), o 32 (.pick (.t 28) (.t 31) F), m 33 32, g 34
 33 true (.faddr 7 (.t 1)), g 35 33 true (.load false 1 (.t 34)), g 36 33 true (.call 80 [.t 35, .k (.val (.int .i64 0)), .k (.val (.int .i64 9999))]), o 37 (.pick (.t 33) (.t 36)
 F), m 2 37]) (.ret))
theorem ok38 : chkFn Tryz.prog 38 ir38 1 [.t 2] = true := by kernel_rfl
/-- impl.site -/
def ir122 : PC := .seq (.reg [o 2 (.mov (z #[]))]) (.seq (.reg [m 6 0, o 7 (.call 125 [.t 6]), m 5 7, o 8 (.ext 0 (.t 5)), o 9 (.ext 1 (.t 5)), o 3 (.alloc [.val (.str ⟨#[]⟩), .val
 (.str ⟨#[]⟩), .val (.str ⟨#[]⟩), .val (.int .i64 0), .val (.str ⟨#[]⟩), .val (.str ⟨#[]⟩), .val (.str ⟨#[]⟩), .val (.bool false), .val (.bool false)]), n (.store 9 (.t 3) (.t 8)),
 m 4 9]) (.seq (.block 0 (.seq (.reg [m 11 4, o 12 (.un .not (.t 11)), m 10 12]) (.cond (.t 10) (.seq (.reg [o 2 (.mov (z #[]))]) (.ret)) (.seq (.reg [o 14 (.load true 9 (.t 3)), o
 15 (.call 153 [.t 14]), m 13 15]) (.cond (.t 13) (.seq (.reg [o 16 (.load true 9 (.t 3)), o 17 (.call 154 [.t 16]), m 2 17]) (.ret)) (.skip)))))) (.seq (.reg [o 18 (.faddr 0 (.t
 3)), l 19 18, m 2 19]) (.ret))))
theorem ok122 : chkFn Tryz.prog 122 ir122 1 [.t 2] = true := by kernel_rfl
/-- (impl.Violation).blocked -/
def ir81 : PC := .seq (.reg [o 1 (.box (.t 0)), o 2 (.mov (z #[]))]) (.seq (.block 0 (.seq (.reg [o 4 (.faddr 2 (.t 1)), l 5 4, o 6 (.bin .eql (.t 5) (z #[105, 110, 108, 105, 110,
 101])), m 7 6, g 8 7 false (.faddr 2 (.t 1)), g 9 7 false (.load false 1 (.t 8)), g 10 7 false (.bin .eql (.t 9) (z #[101, 118, 97, 108])), o 11 (.pick (.t 7) T (.t 10)), m 12 11,
 g 13 12 false (.faddr 2 (.t 1)), g 14 12 false (.load false 1 (.t 13)), g 15 12 false (.bin .eql (.t 14) (z #[115, 101, 108, 102])), o 16 (.pick (.t 12) T (.t 15)), m 3 16]) (.cond
 (.t 3) (.seq (.reg [o 17 (.faddr 2 (.t 1)), l 18 17, m 2 18]) (.ret)) (.seq (.reg [o 20 (.faddr 8 (.t 1)), l 21 20, m 19 21]) (.cond (.t 19) (.seq (.reg [o 22 (.faddr 2 (.t 1)), l
 23 22, o 24 (.call 122 [.t 23]), m 2 24]) (.ret)) (.skip)))))) (.seq (.reg [o 25 (.faddr 2 (.t 1)), l 26 25, o 27 (.call 82 [.t 26]), m 2 27]) (.ret)))
theorem ok81 : chkFn Tryz.prog 81 ir81 1 [.t 2] = true := by kernel_rfl
/-- (impl.Violation).source -/
def ir83 : PC := .seq (.reg [o 1 (.box (.t 0)), o 2 (.mov (z #[]))]) (.seq (.reg [o 8 (.faddr 3 (.t 1)), l 9 8, o 10 (.call 125 [.t 9]), m 7 10, o 11 (.ext 0 (.t 7)), o 12 (.ext 1
 (.t 7)), o 3 (.alloc [.val (.str ⟨#[]⟩), .val (.str ⟨#[]⟩), .val (.str ⟨#[]⟩), .val (.int .i64 0), .val (.str ⟨#[]⟩), .val (.str ⟨#[]⟩), .val (.str ⟨#[]⟩), .val (.bool false), .val
 (.bool false)]), n (.store 9 (.t 3) (.t 11)), m 4 12]) (.seq (.reg [o 14 (.faddr 0 (.t 1)), l 15 14, o 16 (.call 125 [.t 15]), m 13 16, o 17 (.ext 0 (.t 13)), o 18 (.ext 1 (.t
 13)), o 5 (.alloc [.val (.str ⟨#[]⟩), .val (.str ⟨#[]⟩), .val (.str ⟨#[]⟩), .val (.int .i64 0), .val (.str ⟨#[]⟩), .val (.str ⟨#[]⟩), .val (.str ⟨#[]⟩), .val (.bool false), .val
 (.bool false)]), n (.store 9 (.t 5) (.t 17)), m 6 18]) (.seq (.seq (.reg [m 19 4, m 20 19, g 21 20 true (.mov (.t 6)), o 22 (.pick (.t 20) (.t 21) F), m 23 22, g 24 23 true (.load
 true 9 (.t 3)), g 25 23 true (.load true 9 (.t 5)), g 26 23 true (.call 126 [.t 24, .t 25]), o 27 (.pick (.t 23) (.t 26) F)]) (.cond (.t 27) (.seq (.reg [o 28 (.load true 9 (.t
 3)), o 29 (.call 124 [.t 28]), m 2 29]) (.ret)) (.skip))) (.seq (.reg [o 30 (.faddr 3 (.t 1)), l 31 30, o 32 (.call 122 [.t 31]), m 2 32]) (.ret)))))
theorem ok83 : chkFn Tryz.prog 83 ir83 1 [.t 2] = true := by kernel_rfl
/-- impl.SameOrigin -/
def ir126 : PC := .seq (.reg [o 2 (.box (.t 0)), o 3 (.box (.t 1)), o 4 (.mov F)]) (.seq (.draw [o 5 (.load true 9 (.t 2)), o 6 (.call 159 [.t 5]), m 7 6, g 8 7 true (.load true 9
 (.t 3)), g 9 7 true (.call 159 [.t 8]), o 10 (.pick (.t 7) (.t 9) F), m 11 10, g 12 11 true (.load true 9 (.t 2)), g 13 11 true (.call 153 [.t 12]), o 14 (.pick (.t 11) (.t 13) F),
 m 15 14, g 16 15 true (.load true 9 (.t 3)), g 17 15 true (.call 153 [.t 16]), o 18 (.pick (.t 15) (.t 17) F), m 19 18, g 20 19 true (.load true 9 (.t 2)), g 21 19 true (.call 154
 [.t 20]), g 22 19 true (.load true 9 (.t 3)), g 23 19 true (.call 154 [.t 22]), g 24 19 true (.bin .eql (.t 21) (.t 23)), o 25 (.pick (.t 19) (.t 24) F)] [m 4 25]) (.ret))
theorem ok126 : chkFn Tryz.prog 126 ir126 2 [.t 4] = true := by kernel_rfl
/-- (impl.Url).strip -/
def ir124 : PC := .seq (.reg [o 1 (.box (.t 0)), o 2 (.mov (z #[]))]) (.seq (.seq (.reg [o 3 (.load true 9 (.t 1)), o 4 (.call 153 [.t 3]), o 5 (.un .not (.t 4))]) (.cond (.t 5)
 (.seq (.reg [o 6 (.faddr 0 (.t 1)), l 7 6, m 2 7]) (.ret)) (.skip))) (.seq (.reg [o 8 (.faddr 1 (.t 1)), n (.store 1 (.t 8) (z #[])), o 9 (.faddr 6 (.t 1)), n (.store 1 (.t 9) (z
 #[])), o 10 (.faddr 8 (.t 1)), n (.store 1 (.t 10) F)]) (.seq (.reg [o 11 (.load true 9 (.t 1)), o 12 (.call 156 [.t 11]), m 2 12]) (.ret))))
theorem ok124 : chkFn Tryz.prog 124 ir124 1 [.t 2] = true := by kernel_rfl
/-- (impl.Url).origin -/
def ir154 : PC := .seq (.reg [o 1 (.box (.t 0)), o 2 (.mov (z #[]))]) (.seq (.reg [o 3 (.faddr 0 (.t 1)), l 4 3, o 5 (.faddr 2 (.t 1)), l 6 5, o 7 (.faddr 3 (.t 1)), l 8 7, o 9
 (.build [.val (.str ⟨#[]⟩), .val (.str ⟨#[]⟩), .val (.str ⟨#[]⟩), .val (.int .i64 0), .val (.str ⟨#[]⟩), .val (.str ⟨#[]⟩), .val (.str ⟨#[]⟩), .val (.bool false), .val (.bool
 false)] [(0, 1, .t 4), (2, 1, .t 6), (3, 1, .t 8)]), o 10 (.call 156 [.t 9]), m 2 10]) (.ret))
theorem ok154 : chkFn Tryz.prog 154 ir154 1 [.t 2] = true := by kernel_rfl
/-- impl.StripText -/
def ir82 : PC := .seq (.reg [o 2 (.mov (z #[]))]) (.seq (.reg [m 6 0, o 7 (.call 123 [.t 6]), m 5 7, o 8 (.ext 0 (.t 5)), o 9 (.ext 1 (.t 5)), o 3 (.alloc [.val (.str ⟨#[]⟩), .val
 (.str ⟨#[]⟩), .val (.str ⟨#[]⟩), .val (.int .i64 0), .val (.str ⟨#[]⟩), .val (.str ⟨#[]⟩), .val (.str ⟨#[]⟩), .val (.bool false), .val (.bool false)]), n (.store 9 (.t 3) (.t 8)),
 m 4 9]) (.seq (.seq (.reg [m 10 4, o 11 (.bin .neq (.t 10) (i 0))]) (.cond (.t 11) (.seq (.reg [o 2 (.mov (z #[]))]) (.ret)) (.skip))) (.seq (.reg [o 12 (.load true 9 (.t 3)), o 13
 (.call 124 [.t 12]), m 2 13]) (.ret))))
theorem ok82 : chkFn Tryz.prog 82 ir82 1 [.t 2] = true := by kernel_rfl
/-- (impl.Violation).body -/
def ir39 : PC := .seq (.reg [o 1 (.box (.t 0)), o 2 (.alloc [.val (.int .i64 0), .val (.int .i64 0), .val (.str ⟨#[]⟩), .emp 1, .emp 5])]) (.seq (.reg [o 4 (.faddr 5 (.t 1)), l 5 4,
 o 6 (.faddr 5 (.t 1)), l 7 6, o 8 (.lens (.t 7)), o 9 (.mn (.t 8) (i 40)), o 10 (.slc 0 (.t 5) none (some (.t 9))), m 3 10]) (.seq (.draw [o 11 (.lit 9 1 [.k (.val (.str ⟨#[98,
 108, 111, 99, 107, 101, 100, 85, 82, 76]⟩)), .k (.val (.str ⟨#[99, 111, 108, 117, 109, 110, 78, 117, 109, 98, 101, 114]⟩)), .k (.val (.str ⟨#[100, 111, 99, 117, 109, 101, 110, 116,
 85, 82, 76]⟩)), .k (.val (.str ⟨#[101, 102, 102, 101, 99, 116, 105, 118, 101, 68, 105, 114, 101, 99, 116, 105, 118, 101]⟩)), .k (.val (.str ⟨#[108, 105, 110, 101, 78, 117, 109, 98,
 101, 114]⟩)), .k (.val (.str ⟨#[114, 101, 102, 101, 114, 114, 101, 114]⟩)), .k (.val (.str ⟨#[115, 97, 109, 112, 108, 101]⟩)), .k (.val (.str ⟨#[115, 111, 117, 114, 99, 101, 70,
 105, 108, 101]⟩))]), o 12 (.load true 9 (.t 1)), o 13 (.call 81 [.t 12]), o 14 (.call 58 [.t 13]), o 15 (.faddr 7 (.t 1)), l 16 15, o 17 (.call 59 [.t 16]), o 18 (.faddr 0 (.t 1)),
 l 19 18, o 20 (.call 82 [.t 19]), o 21 (.call 58 [.t 20]), o 22 (.faddr 4 (.t 1)), l 23 22, o 24 (.call 58 [.t 23]), o 25 (.faddr 6 (.t 1)), l 26 25, o 27 (.call 59 [.t 26]), o 28
 (.faddr 1 (.t 1)), l 29 28, o 30 (.call 82 [.t 29]), o 31 (.call 58 [.t 30]), m 32 3, o 33 (.call 58 [.t 32]), o 34 (.load true 9 (.t 1)), o 35 (.call 83 [.t 34]), o 36 (.call 58
 [.t 35]), o 37 (.lit 40 5 [.t 14, .t 17, .t 21, .t 24, .t 27, .t 31, .t 33, .t 36]), o 38 (.build [.val (.int .i64 0), .val (.int .i64 0), .val (.str ⟨#[]⟩), .emp 1, .emp 5] [(0,
 1, .k (.val (.int .i64 6))), (3, 1, .t 11), (4, 1, .t 37)])] [n (.store 5 (.t 2) (.t 38))]) (.ret)))
theorem ok39 : chkFn Tryz.prog 39 ir39 1 [.c 2 true 5] = true := by kernel_rfl
/-- laws.szViolation -/
def ir9 : PC := .seq (.reg [o 2 (.box (.t 0)), o 4 (.mov (i 0))]) (.seq (.reg [m 5 1, o 6 (.faddr 0 (.t 2)), l 7 6, o 8 (.lens (.t 7)), o 9 (.bin .sub (.t 5) (.t 8)), m 1 9]) (.seq
 (.seq (.reg [m 10 1, o 11 (.bin .lss (.t 10) (i 0))]) (.cond (.t 11) (.seq (.reg [o 4 (.mov (i (-1)))]) (.ret)) (.skip))) (.seq (.reg [m 12 1, o 13 (.faddr 1 (.t 2)), l 14 13, o 15
 (.lens (.t 14)), o 16 (.bin .sub (.t 12) (.t 15)), m 1 16]) (.seq (.seq (.reg [m 17 1, o 18 (.bin .lss (.t 17) (i 0))]) (.cond (.t 18) (.seq (.reg [o 4 (.mov (i (-1)))]) (.ret))
 (.skip))) (.seq (.reg [m 19 1, o 20 (.faddr 2 (.t 2)), l 21 20, o 22 (.lens (.t 21)), o 23 (.bin .sub (.t 19) (.t 22)), m 1 23]) (.seq (.seq (.reg [m 24 1, o 25 (.bin .lss (.t 24)
 (i 0))]) (.cond (.t 25) (.seq (.reg [o 4 (.mov (i (-1)))]) (.ret)) (.skip))) (.seq (.reg [m 26 1, o 27 (.faddr 3 (.t 2)), l 28 27, o 29 (.lens (.t 28)), o 30 (.bin .sub (.t 26) (.t
 29)), m 1 30]) (.seq (.seq (.reg [m 31 1, o 32 (.bin .lss (.t 31) (i 0))]) (.cond (.t 32) (.seq (.reg [o 4 (.mov (i (-1)))]) (.ret)) (.skip))) (.seq (.reg [m 33 1, o 34 (.faddr 4
 (.t 2)), l 35 34, o 36 (.lens (.t 35)), o 37 (.bin .sub (.t 33) (.t 36)), m 1 37]) (.seq (.seq (.reg [m 38 1, o 39 (.bin .lss (.t 38) (i 0))]) (.cond (.t 39) (.seq (.reg [o 4 (.mov
 (i (-1)))]) (.ret)) (.skip))) (.seq (.reg [m 40 1, o 41 (.faddr 5 (.t 2)), l 42 41, o 43 (.lens (.t 42)), o 44 (.bin .sub (.t 40) (.t 43)), m 1 44]) (.seq (.seq (.reg [m 45 1, o 46
 (.bin .lss (.t 45) (i 0))]) (.cond (.t 46) (.seq (.reg [o 4 (.mov (i (-1)))]) (.ret)) (.skip))) (.seq (.reg [m 47 1, m 4 47]) (.ret))))))))))))))
theorem ok9 : chkFn Tryz.prog 9 ir9 2 [.t 4] = true := by kernel_rfl
/-- laws.toViolation -/
def ir11 : PC := .seq (.reg [o 1 (.box (.t 0)), o 2 (.alloc [.val (.str ⟨#[]⟩), .val (.str ⟨#[]⟩), .val (.str ⟨#[]⟩), .val (.str ⟨#[]⟩), .val (.str ⟨#[]⟩), .val (.str ⟨#[]⟩), .val
 (.int .i64 0), .val (.int .i64 0), .val (.bool false)])]) (.seq (.reg [o 3 (.alloc [.val (.str ⟨#[]⟩), .val (.str ⟨#[]⟩), .val (.str ⟨#[]⟩), .val (.str ⟨#[]⟩), .val (.str ⟨#[]⟩),
 .val (.str ⟨#[]⟩), .val (.int .i64 0), .val (.int .i64 0), .val (.bool false)])]) (.seq (.reg [o 4 (.faddr 0 (.t 1)), l 5 4, o 6 (.faddr 0 (.t 3)), n (.store 1 (.t 6) (.t 5))])
 (.seq (.reg [o 7 (.faddr 1 (.t 1)), l 8 7, o 9 (.faddr 1 (.t 3)), n (.store 1 (.t 9) (.t 8))]) (.seq (.reg [o 10 (.faddr 2 (.t 1)), l 11 10, o 12 (.faddr 2 (.t 3)), n (.store 1 (.t
 12) (.t 11))]) (.seq (.reg [o 13 (.faddr 3 (.t 1)), l 14 13, o 15 (.faddr 3 (.t 3)), n (.store 1 (.t 15) (.t 14))]) (.seq (.reg [o 16 (.faddr 4 (.t 1)), l 17 16, o 18 (.faddr 4 (.t
 3)), n (.store 1 (.t 18) (.t 17))]) (.seq (.reg [o 19 (.faddr 5 (.t 1)), l 20 19, o 21 (.faddr 5 (.t 3)), n (.store 1 (.t 21) (.t 20))]) (.seq (.reg [o 22 (.faddr 6 (.t 1)), l 23
 22, o 24 (.faddr 6 (.t 3)), n (.store 1 (.t 24) (.t 23))]) (.seq (.reg [o 25 (.faddr 7 (.t 1)), l 26 25, o 27 (.faddr 7 (.t 3)), n (.store 1 (.t 27) (.t 26))]) (.seq (.reg [o 28
 (.faddr 8 (.t 1)), l 29 28, o 30 (.faddr 8 (.t 3)), n (.store 1 (.t 30) (.t 29))]) (.seq (.reg [o 31 (.load true 9 (.t 3)), n (.store 9 (.t 2) (.t 31))]) (.ret))))))))))))
theorem ok11 : chkFn Tryz.prog 11 ir11 1 [.c 2 true 9] = true := by kernel_rfl
end Go.Proofs
end

/- What the law's copies, sizes and comparisons of violations come to. MADE BY PROGRAM (gen_types.py). -/
section
set_option maxRecDepth 100000
set_option linter.unusedVariables false
set_option linter.unusedSectionVars false
set_option linter.unusedSimpArgs false
namespace Go.Proofs
open Go.PW Go.KP
attribute [local simp] RV.cells RV.one PV.cells PV.solid PV.one vals? allVal mkAgg setAt RV.ofCells elems PV.killL
variable [GF]

theorem g_szViolation (x : LViolation) (left : Int) (h0 : 0 ≤ left) (h1 : left ≤ 1048576) (hx : bdViolation 9223372036854775807 x) : CallOK Tryz.prog 9 [.val (rvViolation x), .val (num left)] (.ret (.val (num (cut left (zViolation x)))) []) [] := by
  refine call_val mixed ok9 rfl (fun _ => rfl) ?_
  unfold ir9
  rw [evalC_intro]
  unfold bdViolation at hx
  obtain ⟨b0, b1, b2, b3, b4, b5⟩ := hx
  unfold zViolation
  have w0 : IntKind.i64.wrap (left - ((x.document.length : Nat) : Int)) = left - ((x.document.length : Nat) : Int) := wrap_i64 (by omega) (by omega)
  by_cases k0 : left - ((x.document.length : Nat) : Int) < 0
  · rw [cut_neg (by omega)]
    simp [initSt, avPVs, avPV, avBoxesL, avBoxes, rvViolation, tx, num, bs_size, allVal, w0, k0]
  · skip
    have w1 : IntKind.i64.wrap ((left - (x.document.length : Nat)) - ((x.referrer.length : Nat) : Int)) = (left - (x.document.length : Nat)) - ((x.referrer.length : Nat) : Int) := wrap_i64 (by omega) (by omega)
    by_cases k1 : (left - (x.document.length : Nat)) - ((x.referrer.length : Nat) : Int) < 0
    · rw [cut_neg (by omega)]
      simp [initSt, avPVs, avPV, avBoxesL, avBoxes, rvViolation, tx, num, bs_size, allVal, w0, w1, k0, k1]
    · skip
      have w2 : IntKind.i64.wrap ((left - (x.document.length : Nat) - (x.referrer.length : Nat)) - ((x.blocked.length : Nat) : Int)) = (left - (x.document.length : Nat) - (x.referrer.length : Nat)) - ((x.blocked.length : Nat) : Int) := wrap_i64 (by omega) (by omega)
      by_cases k2 : (left - (x.document.length : Nat) - (x.referrer.length : Nat)) - ((x.blocked.length : Nat) : Int) < 0
      · rw [cut_neg (by omega)]
        simp [initSt, avPVs, avPV, avBoxesL, avBoxes, rvViolation, tx, num, bs_size, allVal, w0, w1, w2, k0, k1, k2]
      · skip
        have w3 : IntKind.i64.wrap ((left - (x.document.length : Nat) - (x.referrer.length : Nat) - (x.blocked.length : Nat)) - ((x.source.length : Nat) : Int)) = (left - (x.document.length : Nat) - (x.referrer.length : Nat) - (x.blocked.length : Nat)) - ((x.source.length : Nat) : Int) := wrap_i64 (by omega) (by omega)
        by_cases k3 : (left - (x.document.length : Nat) - (x.referrer.length : Nat) - (x.blocked.length : Nat)) - ((x.source.length : Nat) : Int) < 0
        · rw [cut_neg (by omega)]
          simp [initSt, avPVs, avPV, avBoxesL, avBoxes, rvViolation, tx, num, bs_size, allVal, w0, w1, w2, w3, k0, k1, k2, k3]
        · skip
          have w4 : IntKind.i64.wrap ((left - (x.document.length : Nat) - (x.referrer.length : Nat) - (x.blocked.length : Nat) - (x.source.length : Nat)) - ((x.directive.length : Nat) : Int)) = (left - (x.document.length : Nat) - (x.referrer.length : Nat) - (x.blocked.length : Nat) - (x.source.length : Nat)) - ((x.directive.length : Nat) : Int) := wrap_i64 (by omega) (by omega)
          by_cases k4 : (left - (x.document.length : Nat) - (x.referrer.length : Nat) - (x.blocked.length : Nat) - (x.source.length : Nat)) - ((x.directive.length : Nat) : Int) < 0
          · rw [cut_neg (by omega)]
            simp [initSt, avPVs, avPV, avBoxesL, avBoxes, rvViolation, tx, num, bs_size, allVal, w0, w1, w2, w3, w4, k0, k1, k2, k3, k4]
          · skip
            have w5 : IntKind.i64.wrap ((left - (x.document.length : Nat) - (x.referrer.length : Nat) - (x.blocked.length : Nat) - (x.source.length : Nat) - (x.directive.length : Nat)) - ((x.sample.length : Nat) : Int)) = (left - (x.document.length : Nat) - (x.referrer.length : Nat) - (x.blocked.length : Nat) - (x.source.length : Nat) - (x.directive.length : Nat)) - ((x.sample.length : Nat) : Int) := wrap_i64 (by omega) (by omega)
            by_cases k5 : (left - (x.document.length : Nat) - (x.referrer.length : Nat) - (x.blocked.length : Nat) - (x.source.length : Nat) - (x.directive.length : Nat)) - ((x.sample.length : Nat) : Int) < 0
            · rw [cut_neg (by omega)]
              simp [initSt, avPVs, avPV, avBoxesL, avBoxes, rvViolation, tx, num, bs_size, allVal, w0, w1, w2, w3, w4, w5, k0, k1, k2, k3, k4, k5]
            · rw [cut_pos (by omega)]
              simp [initSt, avPVs, avPV, avBoxesL, avBoxes, rvViolation, tx, num, bs_size, allVal, w0, w1, w2, w3, w4, w5, k0, k1, k2, k3, k4, k5]
              try omega

theorem g_toViolation (x : LViolation) (hx : bdViolation 1048576 x) : CallOK Tryz.prog 11 [.val (rvViolation x)] (.ret (.val (rvViolation x)) []) [] := by
  refine call_val mixed ok11 rfl (fun _ => rfl) ?_
  unfold ir11
  rw [evalC_intro]
  unfold bdViolation at hx
  obtain ⟨b0, b1, b2, b3, b4, b5⟩ := hx
  simp [initSt, avPVs, avPV, avBoxesL, avBoxes, rvViolation, tx, num, allVal]
  refine (resP_c (id := 2) (n := 9) (rs := [tx x.document, tx x.referrer, tx x.blocked, tx x.source, tx x.directive, tx x.sample, num x.line, num x.column, .bool x.redirected]) ?_ ?_ rfl (by omega)).trans ?_
  · simp
  · simp [tx, num]
  · simp [rvViolation, tx, num, allVal]

end Go.Proofs
end

/- What the reference tells of a violation. -/
section
set_option maxRecDepth 100000
set_option linter.unusedVariables false
set_option linter.unusedSectionVars false
set_option linter.unusedSimpArgs false
namespace Go.Proofs
open Go.PW Go.KP
attribute [local simp] RV.cells RV.one PV.cells PV.solid PV.one vals? allVal mkAgg setAt RV.ofCells elems PV.killL
section
variable [GF]

theorem c_l01Strip (u : LUrl) (hs : u.Small) : CallOK Tryz.prog 119 [.val (rvUrl u)] (.ret (.val (tx (lstrip u))) []) [] := by
  refine call_val mixed ok119 rfl (fun _ => rfl) ?_
  unfold ir119
  rw [evalC_intro]
  unfold lstrip
  simp [initSt, avPVs, avPV, avBoxesL, avBoxes, tx, rvUrl, num]
  refine callS_val rfl rfl (.inl rfl) (c_l01Web u.scheme) ?_
  cases hw : lweb u.scheme with
  | false => simp [tx]
  | true =>
    simp [allVal]
    refine callS_val rfl rfl (.inl rfl) (c_l01Text (lnouser u) (nouser_small hs)) ?_
    simp [tx]

theorem c_l05Site (t : Tx) (ht : t.length < 1048577) : CallOK Tryz.prog 117 [.val (tx t)] (.ret (.val (tx (lsiteT t))) []) [] := by
  refine call_val mixed ok117 rfl (fun _ => rfl) ?_
  unfold ir117
  rw [evalC_intro]
  have hsm := lparse_small (t := t) (by omega)
  have hp := c_l01Parse t (by omega)
  unfold lsiteT
  generalize lparse t = r at *
  obtain ⟨u, b⟩ := r
  simp only at hsm ⊢
  simp [initSt, avPVs, avPV, avBoxesL, avBoxes, tx]
  refine callS_pv rfl rfl (fun _ => rfl) rfl (.inl rfl) hp ?_
  simp [parseRes, rvUrl, tx, num]
  cases b with
  | false => simp [tx, bs]
  | true =>
    simp
    refine callS_val rfl rfl (.inl rfl) (c_l01Web u.scheme) ?_
    cases hw : lweb u.scheme with
    | false => simp [tx, bs]
    | true =>
      simp
      refine callS_val rfl rfl (.inl rfl) (c_l01Site u hsm) ?_
      simp [tx]

theorem c_l01StripText (t : Tx) (ht : t.length < 1048577) : CallOK Tryz.prog 77 [.val (tx t)] (.ret (.val (tx (lstripT t))) []) [] := by
  refine call_val mixed ok77 rfl (fun _ => rfl) ?_
  unfold ir77
  rw [evalC_intro]
  have hsm := lparse_small (t := t) (by omega)
  have hp := c_l01Parse t (by omega)
  unfold lstripT
  generalize lparse t = r at *
  obtain ⟨u, b⟩ := r
  simp only at hsm ⊢
  simp [initSt, avPVs, avPV, avBoxesL, avBoxes, tx]
  refine callS_pv rfl rfl (fun _ => rfl) rfl (.inl rfl) hp ?_
  simp [parseRes, rvUrl, tx, num]
  cases b with
  | false => simp [tx, bs]
  | true =>
    simp
    refine callS_val rfl rfl (.inl rfl) (c_l01Strip u hsm) ?_
    simp [tx]

theorem c_l01SameOrigin (a b : LUrl) : CallOK Tryz.prog 120 [.val (rvUrl a), .val (rvUrl b)] (.ret (.val (.bool (lsameO a b))) []) [] := by
  refine call_val mixed ok120 rfl (fun _ => rfl) ?_
  unfold ir120
  rw [evalC_intro]
  unfold lsameO
  simp [initSt, avPVs, avPV, avBoxesL, avBoxes, tx, rvUrl, num]
  refine callS_val rfl rfl (.inl rfl) (c_l01Web a.scheme) ?_
  cases hw : lweb a.scheme with
  | false => simp [tx]
  | true =>
    by_cases h1 : a.scheme = b.scheme
    · by_cases h2 : a.host = b.host
      · by_cases h3 : a.port = b.port
        · simp [h1, h2, h3, bs_inj]
        · simp [h1, h2, h3, bs_inj]
      · simp [h1, h2, bs_inj]
    · simp [h1, bs_inj]

theorem c_l05Blocked (v : LViolation) (h : v.blocked.length < 1048577) : CallOK Tryz.prog 75 [.val (rvViolation v)] (.ret (.val (tx (lblocked v))) []) [] := by
  refine call_val mixed ok75 rfl (fun _ => rfl) ?_
  unfold ir75
  rw [evalC_intro]
  unfold lblocked
  simp [initSt, avPVs, avPV, avBoxesL, avBoxes, tx, rvViolation, num, allVal, elems, RV.one]
  refine callS_val rfl rfl (.inr rfl) (c_l01Has bWords v.blocked (by simp [bWords])) ?_
  by_cases h1 : v.blocked ∈ bWords
  · simp [tx, h1]
  · by_cases h2 : v.redirected = true
    · simp [tx, h1, h2]
      refine callS_val rfl rfl (.inl rfl) (c_l05Site v.blocked h) ?_
      simp [tx, h1, h2]
    · simp only [Bool.not_eq_true] at h2
      simp [tx, h1, h2]
      refine callS_val rfl rfl (.inl rfl) (c_l01StripText v.blocked h) ?_
      simp [tx, h1, h2]

theorem c_l05Source (v : LViolation) (h1 : v.source.length < 1048577) (h2 : v.document.length < 1048577) : CallOK Tryz.prog 78 [.val (rvViolation v)] (.ret (.val (tx (lsource v))) []) [] := by
  refine call_val mixed ok78 rfl (fun _ => rfl) ?_
  unfold ir78
  rw [evalC_intro]
  have hsm := lparse_small (t := v.source) (by omega)
  have hp := c_l01Parse v.source (by omega)
  have hq := c_l01Parse v.document (by omega)
  have hsi := c_l05Site v.source h1
  unfold lsource
  generalize lparse v.source = r at *
  generalize lparse v.document = s at *
  obtain ⟨u, b⟩ := r
  obtain ⟨u', b'⟩ := s
  simp only at hsm ⊢
  simp [initSt, avPVs, avPV, avBoxesL, avBoxes, tx, rvViolation, num]
  refine callS_pv rfl rfl (fun _ => rfl) rfl (.inl rfl) hp ?_
  simp [parseRes, rvUrl, tx, num]
  refine callS_pv rfl rfl (fun _ => rfl) rfl (.inl rfl) hq ?_
  simp [parseRes, rvUrl, tx, num]
  cases b with
  | false =>
    simp [tx]
    refine callS_val rfl rfl (.inl rfl) hsi ?_
    simp [tx]
  | true =>
    cases b' with
    | false =>
      simp [tx]
      refine callS_val rfl rfl (.inl rfl) hsi ?_
      simp [tx]
    | true =>
      simp [tx, allVal]
      refine callS_val rfl rfl (.inl rfl) (c_l01SameOrigin u u') ?_
      cases ho : lsameO u u' with
      | false =>
        simp [tx]
        refine callS_val rfl rfl (.inl rfl) hsi ?_
        simp [tx]
      | true =>
        simp [tx, allVal]
        refine callS_val rfl rfl (.inl rfl) (c_l01Strip u hsm) ?_
        simp [tx]

def vbox (v : LViolation) : MObj := .box [.val (tx v.document), .val (tx v.referrer), .val (tx v.blocked), .val (tx v.source), .val (tx v.directive), .val (tx v.sample), .val (num v.line), .val (num v.column), .val (.bool v.redirected)]
def vTexts (v : LViolation) : List Tx := [v.document, v.referrer, v.blocked, v.source]
theorem c_l05OK (v : LViolation) (hb : bdViolation 1048576 v) : CallOK Tryz.prog 35 [.val (rvViolation v)] (.ret (.val (.bool (lvOK v))) []) [] := by
  obtain ⟨b1, b2, b3, b4, b5, b6⟩ := hb
  refine call_val mixed ok35 rfl (fun _ => rfl) ?_
  unfold ir35
  rw [evalC_intro]
  obtain ⟨r, hr⟩ : ∃ r, lvOK v = r := ⟨_, rfl⟩
  rw [hr]
  have hlong : ∀ j (h : j < (vTexts v).length), 100 < (vTexts v)[j].length → lvOK v = false := fun j h hh => by
    have h4 : j < 4 := h
    unfold lvOK
    match j, h4 with
    | 0, _ => simp [vTexts] at hh; rw [decide_eq_false (by omega)]; simp
    | 1, _ => simp [vTexts] at hh; rw [decide_eq_false (p := v.referrer.length ≤ 100) (by omega)]; simp
    | 2, _ => simp [vTexts] at hh; rw [decide_eq_false (p := v.blocked.length ≤ 100) (by omega)]; simp
    | 3, _ => simp [vTexts] at hh; rw [decide_eq_false (p := v.source.length ≤ 100) (by omega)]; simp
  simp [initSt, avPVs, avPV, avBoxesL, avBoxes, tx, rvViolation, num, allVal, elems, RV.one]
  refine loop_EC (X := Nat) (fun i => ⟨envOf [(1, .ptr 1 0), (3, .own 13), (4, .val (num i))], memOf [(1, vbox v), (13, .row 9 1 ((vTexts v).map tx))]⟩) (fun i => i ≤ 4 ∧ ∀ x ∈ (vTexts v).take i, x.length ≤ 100) (fun i => 4 - i) 0 (Le.mk _ _ ?_ ?_) ?_ ?_
  · simp [upd, num, tx, PV.kill]
  · simp [tx, num, vbox, vTexts, MObj.kill]
  · simp
  · rintro i ⟨hi, hall⟩
    simp [num, tx, vTexts]
    refine iteP_intro (fun h1 => ?_) (fun h1 => ?_)
    · have hl : i < (vTexts v).length := by simp [vTexts]; omega
      obtain ⟨x, hx⟩ : ∃ x, (vTexts v)[i] = x := ⟨_, rfl⟩
      have hlo := hlong i hl
      rw [hx] at hlo
      have hget : (([tx v.document, tx v.referrer, tx v.blocked, tx v.source] : List RV)[i]?) = some (tx x) := by
        have : ([tx v.document, tx v.referrer, tx v.blocked, tx v.source] : List RV) = (vTexts v).map tx := rfl
        rw [this, List.getElem?_map, List.getElem?_eq_getElem hl, hx]; rfl
      simp only [tx] at hget
      have wi : IntKind.i64.wrap ((i : Int) + 1) = ((i + 1 : Nat) : Int) := by rw [wrap_i64 (by omega) (by omega)]; omega
      simp [num, tx, h1, hget, bs_size]
      refine ⟨by omega, iteP_intro (fun h2 => ?_) (fun h2 => ?_)⟩
      · obtain rfl : r = false := by rw [← hr, hlo (by omega)]
        simp
      · simp
        refine LoopNext.mk (i + 1) ⟨by omega, ?_⟩ (by omega) (Le.mk _ _ ?_ ?_)
        · intro y hy
          rw [List.take_add_one, List.getElem?_eq_getElem hl, hx] at hy
          rcases List.mem_append.1 hy with hy | hy
          · exact hall y hy
          · rw [Option.toList_some, List.mem_singleton] at hy; subst hy; omega
        · simp [num, wi]
        · simp [vbox, tx, num, vTexts]
    · have e : i = 4 := by omega
      subst e
      have ht : (vTexts v).take 4 = vTexts v := rfl
      rw [ht] at hall
      have a1 := hall v.document (by simp [vTexts])
      have a2 := hall v.referrer (by simp [vTexts])
      have a3 := hall v.blocked (by simp [vTexts])
      have a4 := hall v.source (by simp [vTexts])
      have hr' : (lrname v.directive && decide (v.sample.length ≤ 200) && decide (0 ≤ v.line ∧ v.line ≤ 9999) && decide (0 ≤ v.column ∧ v.column ≤ 9999)) = r := by
        rw [← hr]; unfold lvOK; simp only [a1, a2, a3, a4, decide_true, Bool.true_and]
      clear hr hlong hall
      simp [num, tx, vbox]
      refine callS_val rfl rfl (.inl rfl) (c_l04Name v.directive (by omega)) ?_
      cases hn : lrname v.directive with
      | false =>
        obtain rfl : r = false := by rw [← hr', hn]; rfl
        simp [num, tx, vbox]
      | true =>
        rw [hn] at hr'
        by_cases h200 : v.sample.length ≤ 200
        · rw [decide_eq_true h200] at hr'
          have h200' : (v.sample.length : Int) ≤ 200 := by omega
          simp [num, tx, vbox, bs_size, h200']
          refine callS_val rfl rfl (.inl rfl) (c_l01In .i64 v.line 0 9999) ?_
          by_cases hL : 0 ≤ v.line ∧ v.line ≤ 9999
          · rw [decide_eq_true hL] at hr' ⊢
            simp [num, tx, vbox]
            refine callS_val rfl rfl (.inl rfl) (c_l01In .i64 v.column 0 9999) ?_
            simp only [Bool.true_and] at hr'
            rw [hr']
            simp [num, tx, vbox]
          · rw [decide_eq_false hL] at hr' ⊢
            obtain rfl : r = false := by rw [← hr']; rfl
            simp [num, tx, vbox]
        · have h200' : ¬ (v.sample.length : Int) ≤ 200 := by omega
          obtain rfl : r = false := by rw [← hr', decide_eq_false h200]; rfl
          simp [num, tx, vbox, bs_size, h200']

theorem resP_json {st : St} {s id : Nat} {j : LJson} {cs : List PV} (h1 : st.env s = .ptr id 0) (h2 : st.mem id = .box cs) (h3 : PV.plL (PV.frzL (frzOf st fun _ => true) cs) = (rvJson j).cells.map .val) : resP [.c s true 5] st.fin = some (.val (rvJson j)) := by
  obtain ⟨k, n, t, ns, is⟩ := j
  rw [rvJson_mk] at h3 ⊢
  refine (resP_cz (id := id) (n := 5) (cs := cs) (rs := [num k, num n, tx t, .list 1 (ns.map tx), .list 5 (is.map rvJson)]) h1 h2 h3 rfl (by omega)).trans ?_
  simp [mkAgg, allVal]
theorem c_l03Word (t : Tx) : CallOK Tryz.prog 74 [.val (tx t)] (.ret (.val (rvJson (jt t))) []) [] := by
  refine call_val mixed ok74 rfl (fun _ => rfl) ?_
  unfold ir74
  rw [evalC_intro]
  simp [initSt, avPVs, avPV, avBoxesL, avBoxes, tx, num]
  refine resP_json (id := 2) (cs := [.val (num 4), .val (num 0), .val (tx t), .emp 1, .emp 5]) ?_ ?_ ?_
  · simp
  · simp [tx, num]
  · simp [PV.frzL, PV.frz, PV.plL, PV.pl, frzOf, jt, rvJson_mk, tx, num]
theorem c_l03Say (n : Int) : CallOK Tryz.prog 76 [.val (num n)] (.ret (.val (rvJson (jn n))) []) [] := by
  refine call_val mixed ok76 rfl (fun _ => rfl) ?_
  unfold ir76
  rw [evalC_intro]
  simp [initSt, avPVs, avPV, avBoxesL, avBoxes, tx, num]
  refine resP_json (id := 2) (cs := [.val (num 3), .val (num n), .val (tx []), .emp 1, .emp 5]) ?_ ?_ ?_
  · simp
  · simp [tx, num, bs]
  · simp [PV.frzL, PV.frz, PV.plL, PV.pl, frzOf, jn, rvJson_mk, tx, num, bs]

theorem body_from4 (v : LViolation) (h : VOK v) (st : St) (e1 : st.env 1 = .ptr 1 0) (e2 : st.env 2 = .ptr 2 0) (e3 : st.env 3 = .ptr 3 0) (e4 : st.env 4 = .val (tx (v.sample.take 40))) (m1 : st.mem 1 = vbox v)
    (m2 : st.mem 2 = .box [.val (num 0), .val (num 0), .val (tx []), .emp 1, .emp 5]) (m3 : st.mem 3 = .box [.val (num 6), .val (num 0), .val (tx []), .own 5, .emp 5]) (m5 : st.mem 5 = .row 9 1 (bNames.map tx)) :
    EC Tryz.prog ir37_from4 st (K := ⟨RetP [.c 2 true 5] (.val (rvJson (lbody v)))⟩) := by
  obtain ⟨h1, h2, h3, h4, h5, h5', h6, h7, h8⟩ := h
  unfold ir37_from4
  simp [e1, e2, e3, e4, m1, m2, m3, m5, vbox, tx, num, allVal]
  refine callX_val rfl rfl (.inl rfl) (c_l05Blocked v (by omega)) ?_
  simp [e1, e2, e3, e4, m1, m2, m3, m5, vbox, tx, num, allVal]
  refine callX_val rfl rfl (.inl rfl) (c_l03Word (lblocked v)) ?_
  simp [e1, e2, e3, e4, m1, m2, m3, m5, vbox, tx, num, allVal]
  refine callX_val rfl rfl (.inl rfl) (c_l03Say v.column) ?_
  simp [e1, e2, e3, e4, m1, m2, m3, m5, vbox, tx, num, allVal]
  refine callX_val rfl rfl (.inl rfl) (c_l01StripText v.document (by omega)) ?_
  simp [e1, e2, e3, e4, m1, m2, m3, m5, vbox, tx, num, allVal]
  refine callX_val rfl rfl (.inl rfl) (c_l03Word (lstripT v.document)) ?_
  simp [e1, e2, e3, e4, m1, m2, m3, m5, vbox, tx, num, allVal]
  refine callX_val rfl rfl (.inl rfl) (c_l03Word v.directive) ?_
  simp [e1, e2, e3, e4, m1, m2, m3, m5, vbox, tx, num, allVal]
  refine callX_val rfl rfl (.inl rfl) (c_l03Say v.line) ?_
  simp [e1, e2, e3, e4, m1, m2, m3, m5, vbox, tx, num, allVal]
  refine callX_val rfl rfl (.inl rfl) (c_l01StripText v.referrer (by omega)) ?_
  simp [e1, e2, e3, e4, m1, m2, m3, m5, vbox, tx, num, allVal]
  refine callX_val rfl rfl (.inl rfl) (c_l03Word (lstripT v.referrer)) ?_
  simp [e1, e2, e3, e4, m1, m2, m3, m5, vbox, tx, num, allVal]
  refine callX_val rfl rfl (.inl rfl) (c_l03Word (v.sample.take 40)) ?_
  simp [e1, e2, e3, e4, m1, m2, m3, m5, vbox, tx, num, allVal]
  refine callX_val rfl rfl (.inl rfl) (c_l05Source v (by omega) (by omega)) ?_
  simp [e1, e2, e3, e4, m1, m2, m3, m5, vbox, tx, num, allVal]
  refine callX_val rfl rfl (.inl rfl) (c_l03Word (lsource v)) ?_
  simp [e1, e2, e3, e4, m1, m2, m3, m5, vbox, tx, num, allVal, elems, jt, jn, rvJson_mk, RV.one, PV.kill, PV.killL]
  refine resP_json (id := 2) (cs := [.val (num 6), .val (num 0), .val (tx []), .own 5, .own 39]) ?_ ?_ ?_
  · simp [e2]
  · simp [tx, num]
  · simp [PV.frzL, PV.frz, PV.plL, PV.pl, frzOf, lbody, bItems, jt, jn, rvJson_mk, tx, num, m5, evalC_skip, evalC_reg, evalC_draw, evalC_seq, evalC_cond, evalC_block, evalC_exit, evalC_ret, then_normal, then_exit, then_ret, then_pan, inBlock_normal, inBlock_ret, inBlock_pan, inBlock_exit, condS_bool, evalOps_nil, evalOps_cons, evalX_nil, evalX_cons, guardS_none, guardS_some, setD_some, setD_none, ev_t, ev_k, Option.getD_some, Option.getD_none, stepE_mov, stepE_pick, stepE_alloc, stepE_box, stepE_build, stepE_store, stepE_app, stepE_nilck, stepE_bin, stepE_eqb, stepE_eqs, stepE_un, stepE_conv, stepE_faddr, stepE_fld, stepE_load, stepE_iaddr, stepE_idx, stepE_slc, stepE_ext, stepE_lens, stepE_len, stepE_tostr, stepE_mkfn, stepE_ifc, stepE_mn, stepE_mx, stepE_mx4, stepE_mks, stepE_isnil, stepE_lit, stepE_call, stepE_callv, stepX_mov, stepX_nilck, stepX_bin, stepX_eqb, stepX_eqs, stepX_un, stepX_conv, stepX_faddr, stepX_fld, stepX_load, stepX_iaddr, stepX_idx, stepX_slc, stepX_ext, stepX_lens, stepX_len, stepX_tostr, stepX_mkfn, stepX_ifc, stepX_mn, stepX_mx, stepX_mx4, stepX_pick, stepX_build, stepX_lit, stepX_call, stepX_callv, binS_int, binS_str, binI_add, binI_sub, binI_mul, binI_quo, binI_rem, binI_eql, binI_neq, binI_lss, binI_leq, binI_gtr, binI_geq, binStr_add, binStr_eql, binStr_neq, unS_not, unS_neg, upd_app, envOf_nil, envOf_cons, memOf_nil, memOf_cons, RetP_ret, RetP_normal, resP_t, resP_tt, fin_env, frz_val, frz_emp, frz_own, pl_val, pl_emp, kill_val, kill_own, kill_ptr, kill_emp, kill_elt, kill_at, kill_undef, kill_fn, kill_skip, killM_row, killM_box, killM_dead, Kx_k, fillP_nil, fillP_cons, slc_lo, slc_hi, slc_lohi, slcl_lo, slcl_hi, Option.map_some, Option.map_none, iteP_true, iteP_false, onBool_val, onBool_skip, nilck_ptr, nilck_elt, nilck_at, nilck_fn, eqb_val, eqs_val, conv_val, faddr_ptr, faddr_elt, faddr_at, fld_val, fld_agg, load_ptr, loadBox_box, load_elt, loadRow_row, load_at, iaddr_lst, iaddr_own, iaddrRow_row, idx_val, ext_tup, lens_val, len_val, len_emp, len_own, lenRow_row, tostr_val, tostr_emp, tostr_own, tostrRow_row, ifc_val, mn_val, mx_val, mx4_val, lit_some, fn_fn, mks_val, isnil_nilif, isnil_ifc, isnil_emp, isnil_list, isnil_own, isnilRow_row, store_ptrK, storeBox_box, store_eltK, storeRow_row, add_some, app_own, app_emp, appRow_row, addOf_list, addOf_emp, addOf_own, rowOf_row]
theorem c_l05Body (v : LViolation) (h : VOK v) : CallOK Tryz.prog 37 [.val (rvViolation v)] (.ret (.val (rvJson (lbody v))) []) [] := by
  refine call_val mixed ok37 rfl (fun _ => rfl) ?_
  unfold ir37
  rw [evalC_intro]
  simp [initSt, avPVs, avPV, avBoxesL, avBoxes, tx, num, rvViolation, elems, allVal, RV.one, bs_size, PV.kill, PV.killL]
  refine iteP_intro (fun h1 => ?_) (fun h1 => ?_)
  · simp [tx, num, bs_size, bs_extract]
    refine ⟨by omega, ?_⟩
    refine body_from4 v h _ ?_ ?_ ?_ ?_ ?_ ?_ ?_ ?_
    all_goals simp [tx, num, vbox, bNames, bs, MObj.kill, PV.kill, PV.killL]
  · simp [tx, num, bs_size, bs_extract]
    refine body_from4 v h _ ?_ ?_ ?_ ?_ ?_ ?_ ?_ ?_
    all_goals simp [tx, num, vbox, bNames, bs, MObj.kill, PV.kill, PV.killL]
    exact (List.take_of_length_le (by omega)).symm

end
end Go.Proofs
end

/- What the program tells of a violation. -/
section
set_option maxRecDepth 100000
set_option linter.unusedVariables false
set_option linter.unusedSectionVars false
set_option linter.unusedSimpArgs false
namespace Go.Proofs
open Go.PW Go.KP
attribute [local simp] RV.cells RV.one PV.cells PV.solid PV.one vals? allVal mkAgg setAt RV.ofCells elems PV.killL
section
variable [GH]

def lorig (u : LUrl) : LUrl := ⟨u.scheme, [], u.host, u.port, [], [], [], false, false⟩
theorem i_origin (u : LUrl) (ht : u.Tiny) : CallOK Tryz.prog 154 [.val (rvUrl u)] (.ret (.val (tx (ltext (lorig u)))) []) [] := by
  obtain ⟨t1, t2, t3, t4, t5, t6, t7⟩ := ht
  have hs : (lorig u).Small := ⟨by simp [lorig]; omega, by simp [lorig], by simp [lorig]; omega, by simp [lorig], by simp [lorig], by simp [lorig], by simp [lorig]; omega⟩
  refine call_val mixed ok154 rfl (fun _ => rfl) ?_
  unfold ir154
  rw [evalC_intro]
  simp [initSt, avPVs, avPV, avBoxesL, avBoxes, tx, num, rvUrl, allVal]
  have hT := i_text (lorig u) hs (by simp [lorig]; omega)
  rw [itext_eq (by simp [lorig]; omega)] at hT
  refine callS_val rfl rfl (.inl rfl) hT ?_
  simp [tx]
theorem i_strip (u : LUrl) (ht : u.Tiny) : CallOK Tryz.prog 124 [.val (rvUrl u)] (.ret (.val (tx (lstrip u))) []) [] := by
  have hs := nouser_small (tiny_of ht).small
  refine call_val mixed ok124 rfl (fun _ => rfl) ?_
  unfold ir124
  rw [evalC_intro]
  unfold lstrip
  simp [initSt, avPVs, avPV, avBoxesL, avBoxes, tx, num, rvUrl, allVal]
  refine callS_val rfl rfl (.inl rfl) (i_web u) ?_
  cases hw : lweb u.scheme with
  | false => simp [tx]
  | true =>
    simp [allVal]
    have hp : 0 ≤ (lnouser u).port := ht.2.2.2.2.2.2.1
    have hT := i_text (lnouser u) hs (by omega)
    rw [itext_eq hp] at hT
    refine callS_val rfl rfl (.inl rfl) hT ?_
    simp [tx]
theorem i_StripText (t : Tx) (ht : t.length ≤ 65536) : CallOK Tryz.prog 82 [.val (tx t)] (.ret (.val (tx (lstripT t))) []) [] := by
  refine call_val mixed ok82 rfl (fun _ => rfl) ?_
  unfold ir82
  rw [evalC_intro]
  have hti := lparse_tiny (t := t) (by omega)
  have hp := i_ParseUrl t (by omega)
  unfold lstripT
  unfold iparseUrl at hp
  rw [if_pos ht] at hp
  generalize lparse t = r at *
  obtain ⟨u, b⟩ := r
  simp only at hti hp ⊢
  simp [initSt, avPVs, avPV, avBoxesL, avBoxes, tx]
  refine callS_pv rfl rfl (fun _ => rfl) rfl (.inl rfl) hp ?_
  cases b with
  | false => simp [codeRes, rvUrl, tx, num, bs]
  | true =>
    simp [codeRes, rvUrl, tx, num, allVal]
    refine callS_val rfl rfl (.inl rfl) (i_strip u hti) ?_
    simp [tx]
theorem lorig_site {u : LUrl} (hw : lweb u.scheme = true) : ltext (lorig u) = lsite u := by
  unfold ltext lsite lorig
  simp [hw]
theorem i_site (t : Tx) (ht : t.length < 1048577) : CallOK Tryz.prog 122 [.val (tx t)] (.ret (.val (tx (lsiteT t))) []) [] := by
  refine call_val mixed ok122 rfl (fun _ => rfl) ?_
  unfold ir122
  rw [evalC_intro]
  have hti := lparse_tiny (t := t) (by omega)
  have hp := i_parse t (by omega)
  unfold lsiteT
  generalize lparse t = r at *
  obtain ⟨u, b⟩ := r
  simp only at hti ⊢
  simp [initSt, avPVs, avPV, avBoxesL, avBoxes, tx]
  refine callS_pv rfl rfl (fun _ => rfl) rfl (.inl rfl) hp ?_
  simp [parseRes, rvUrl, tx, num]
  cases b with
  | false => simp [tx, bs]
  | true =>
    simp [allVal]
    refine callS_val rfl rfl (.inl rfl) (i_web u) ?_
    cases hw : lweb u.scheme with
    | false => simp [tx, bs]
    | true =>
      simp [allVal]
      have hO := i_origin u hti
      rw [lorig_site hw] at hO
      refine callS_val rfl rfl (.inl rfl) hO ?_
      simp [tx]

theorem i_SameOrigin (a b : LUrl) (ha : lurlOK a = true) (hb : lurlOK b = true) (ta : a.Tiny) (tb : b.Tiny) : CallOK Tryz.prog 126 [.val (rvUrl a), .val (rvUrl b)] (.ret (.val (.bool (lsameO a b))) []) [] := by
  have k1 := i_UrlOK a (tiny_of ta)
  have k2 := i_UrlOK b (tiny_of tb)
  rw [ha] at k1
  rw [hb] at k2
  refine call_val mixed ok126 rfl (fun _ => rfl) ?_
  unfold ir126
  rw [evalC_intro, lsameO_site ha hb]
  simp [initSt, avPVs, avPV, avBoxesL, avBoxes, tx, num, rvUrl, allVal]
  refine callX_val rfl rfl (.inl rfl) k1 ?_
  simp [allVal]
  refine callX_val rfl rfl (.inl rfl) k2 ?_
  simp [allVal]
  refine callX_val rfl rfl (.inl rfl) (i_web a) ?_
  cases wa : lweb a.scheme with
  | false => simp
  | true =>
    simp [allVal]
    refine callX_val rfl rfl (.inl rfl) (i_web b) ?_
    cases wb : lweb b.scheme with
    | false => simp
    | true =>
      simp [allVal]
      refine callX_val rfl rfl (.inl rfl) (i_origin a ta) ?_
      simp [allVal]
      refine callX_val rfl rfl (.inl rfl) (i_origin b tb) ?_
      simp [tx, bs_inj, lorig]

theorem i_blocked (v : LViolation) (h : v.blocked.length ≤ 100) : CallOK Tryz.prog 81 [.val (rvViolation v)] (.ret (.val (tx (lblocked v))) []) [] := by
  refine call_val mixed ok81 rfl (fun _ => rfl) ?_
  unfold ir81
  rw [evalC_intro]
  have hS := i_StripText v.blocked (by omega)
  have hT := i_site v.blocked (by omega)
  unfold lblocked
  obtain ⟨b, hbk⟩ : ∃ b, v.blocked = b := ⟨_, rfl⟩
  rw [hbk] at hS hT ⊢
  simp [initSt, avPVs, avPV, avBoxesL, avBoxes, tx, rvViolation, num, bs_mk, bs_inj, hbk]
  by_cases h1 : b = [105, 110, 108, 105, 110, 101]
  · simp [tx, h1, bWords]
  by_cases h2 : b = [101, 118, 97, 108]
  · simp [tx, h2, bWords, bs_mk, bs_inj]
  by_cases h3 : b = [115, 101, 108, 102]
  · simp [tx, h3, bWords, bs_mk, bs_inj]
  have hn : b ∉ bWords := by simp [bWords, h1, h2, h3]
  rw [if_neg hn]
  have c1 : (b == [105, 110, 108, 105, 110, 101]) = false := by simp [h1]
  have c2 : (b == [101, 118, 97, 108]) = false := by simp [h2]
  have c3 : (b == [115, 101, 108, 102]) = false := by simp [h3]
  cases h4 : v.redirected with
  | true =>
    simp [tx, bs_mk, bs_inj, h1, h2, h3, h4, c1, c2, c3]
    refine callS_val rfl rfl (.inl rfl) hT ?_
    simp [tx]
  | false =>
    simp [tx, bs_mk, bs_inj, h1, h2, h3, h4, c1, c2, c3]
    refine callS_val rfl rfl (.inl rfl) hS ?_
    simp [tx]

theorem i_source (v : LViolation) (h1 : v.source.length < 1048577) (h2 : v.document.length < 1048577) : CallOK Tryz.prog 83 [.val (rvViolation v)] (.ret (.val (tx (lsource v))) []) [] := by
  refine call_val mixed ok83 rfl (fun _ => rfl) ?_
  unfold ir83
  rw [evalC_intro]
  have hta := lparse_tiny (t := v.source) (by omega)
  have htb := lparse_tiny (t := v.document) (by omega)
  have hoa := fun h => lparse_ok (t := v.source) h
  have hob := fun h => lparse_ok (t := v.document) h
  have hp := i_parse v.source (by omega)
  have hq := i_parse v.document (by omega)
  have hsi := i_site v.source h1
  unfold lsource
  generalize lparse v.source = r at *
  generalize lparse v.document = s at *
  obtain ⟨u, b⟩ := r
  obtain ⟨u', b'⟩ := s
  simp only at hta htb hoa hob ⊢
  simp [initSt, avPVs, avPV, avBoxesL, avBoxes, tx, rvViolation, num]
  refine callS_pv rfl rfl (fun _ => rfl) rfl (.inl rfl) hp ?_
  simp [parseRes, rvUrl, tx, num]
  refine callS_pv rfl rfl (fun _ => rfl) rfl (.inl rfl) hq ?_
  simp [parseRes, rvUrl, tx, num]
  cases b with
  | false =>
    simp [tx]
    refine callS_val rfl rfl (.inl rfl) hsi ?_
    simp [tx]
  | true =>
    cases b' with
    | false =>
      simp [tx]
      refine callS_val rfl rfl (.inl rfl) hsi ?_
      simp [tx]
    | true =>
      simp [tx, allVal]
      refine callS_val rfl rfl (.inl rfl) (i_SameOrigin u u' (hoa rfl) (hob rfl) hta htb) ?_
      cases ho : lsameO u u' with
      | false =>
        simp [tx]
        refine callS_val rfl rfl (.inl rfl) hsi ?_
        simp [tx]
      | true =>
        simp [tx, allVal]
        refine callS_val rfl rfl (.inl rfl) (i_strip u hta) ?_
        simp [tx]

theorem max4_le (a b c d : Nat) : (max4 a b c d ≤ 100) ↔ (a ≤ 100 ∧ b ≤ 100 ∧ c ≤ 100 ∧ d ≤ 100) := by
  unfold max4
  dsimp only
  repeat' split
  all_goals omega
theorem i_ViolationOK (v : LViolation) (hb : bdViolation 1048576 v) : CallOK Tryz.prog 38 [.val (rvViolation v)] (.ret (.val (.bool (lvOK v))) []) [] := by
  obtain ⟨b1, b2, b3, b4, b5, b6⟩ := hb
  have e0 : lvOK v = (decide (v.document.length ≤ 100 ∧ v.referrer.length ≤ 100 ∧ v.blocked.length ≤ 100 ∧ v.source.length ≤ 100) && (lrname v.directive && decide (v.sample.length ≤ 200) && decide (0 ≤ v.line ∧ v.line ≤ 9999) && decide (0 ≤ v.column ∧ v.column ≤ 9999))) := by
    unfold lvOK
    simp only [Bool.decide_and, Bool.and_assoc]
  refine call_val mixed ok38 rfl (fun _ => rfl) ?_
  unfold ir38
  rw [evalC_intro, e0]
  have hm := max4_le v.document.length v.referrer.length v.blocked.length v.source.length
  simp [initSt, avPVs, avPV, avBoxesL, avBoxes, tx, rvViolation, num, bs_size]
  generalize max4 (v.document.length : Nat) (v.referrer.length : Nat) (v.blocked.length : Nat) (v.source.length : Nat) = m at hm ⊢
  by_cases hM : m ≤ 100
  · have hM' := hm.1 hM
    rw [decide_eq_true hM']
    simp [tx, num, bs_size, hM]
    refine callS_val rfl rfl (.inl rfl) (i_isRule v.directive (by omega)) ?_
    cases hn : lrname v.directive with
    | false => simp [num, tx]
    | true =>
      by_cases h200 : v.sample.length ≤ 200
      · rw [decide_eq_true h200]
        have h200' : (v.sample.length : Int) ≤ 200 := by omega
        simp [num, tx, bs_size, h200']
        refine callS_val rfl rfl (.inl rfl) (i_within v.line 0 9999) ?_
        by_cases hL : 0 ≤ v.line ∧ v.line ≤ 9999
        · rw [decide_eq_true hL]
          simp [num, tx]
          refine callS_val rfl rfl (.inl rfl) (i_within v.column 0 9999) ?_
          simp [num, tx]
        · rw [decide_eq_false hL]
          simp [num, tx]
      · have h200' : ¬ (v.sample.length : Int) ≤ 200 := by omega
        rw [decide_eq_false h200]
        simp [num, tx, bs_size, h200']
  · have hM' := fun h => hM (hm.2 h)
    rw [decide_eq_false hM']
    simp [tx, num, bs_size, hM]

theorem i_textOf (t : Tx) : CallOK Tryz.prog 58 [.val (tx t)] (.ret (.val (rvJson (jt t))) []) [] := by
  refine call_val mixed ok58 rfl (fun _ => rfl) ?_
  unfold ir58
  rw [evalC_intro]
  simp [initSt, avPVs, avPV, avBoxesL, avBoxes, tx, num]
  refine resP_json (id := 2) (cs := [.val (num 4), .val (num 0), .val (tx t), .emp 1, .emp 5]) ?_ ?_ ?_
  · simp
  · simp [tx, num]
  · simp [PV.frzL, PV.frz, PV.plL, PV.pl, frzOf, jt, rvJson_mk, tx, num]
theorem i_numberOf (n : Int) : CallOK Tryz.prog 59 [.val (num n)] (.ret (.val (rvJson (jn n))) []) [] := by
  refine call_val mixed ok59 rfl (fun _ => rfl) ?_
  unfold ir59
  rw [evalC_intro]
  simp [initSt, avPVs, avPV, avBoxesL, avBoxes, tx, num]
  refine resP_json (id := 2) (cs := [.val (num 3), .val (num n), .val (tx []), .emp 1, .emp 5]) ?_ ?_ ?_
  · simp
  · simp [tx, num, bs]
  · simp [PV.frzL, PV.frz, PV.plL, PV.pl, frzOf, jn, rvJson_mk, tx, num, bs]

theorem i_body (v : LViolation) (h : VOK v) : CallOK Tryz.prog 39 [.val (rvViolation v)] (.ret (.val (rvJson (lbody v))) []) [] := by
  obtain ⟨h1, h2, h3, h4, h5, h5', h6, h7, h8⟩ := h
  refine call_val mixed ok39 rfl (fun _ => rfl) ?_
  unfold ir39
  rw [evalC_intro]
  have hmin : (if (40 : Int) < (v.sample.length : Int) then (40 : Int) else (v.sample.length : Int)) = ((min v.sample.length 40 : Nat) : Int) := by split <;> omega
  have hle : min v.sample.length 40 ≤ v.sample.length := by omega
  have htk : v.sample.take (min v.sample.length 40) = v.sample.take 40 := by
    by_cases h : v.sample.length ≤ 40
    · rw [Nat.min_eq_left h, List.take_of_length_le (Nat.le_refl _), List.take_of_length_le h]
    · rw [Nat.min_eq_right (by omega)]
  generalize hmm : min v.sample.length 40 = mm at hmin hle htk
  simp [initSt, avPVs, avPV, avBoxesL, avBoxes, tx, num, rvViolation, elems, allVal, RV.one, bs_size, bs_extract, hmin, htk, hle, PV.kill, PV.killL]
  refine callX_val rfl rfl (.inl rfl) (i_blocked v (by omega)) ?_
  simp [tx, num, allVal]
  refine callX_val rfl rfl (.inl rfl) (i_textOf (lblocked v)) ?_
  simp [tx, num, allVal]
  refine callX_val rfl rfl (.inl rfl) (i_numberOf v.column) ?_
  simp [tx, num, allVal]
  refine callX_val rfl rfl (.inl rfl) (i_StripText v.document (by omega)) ?_
  simp [tx, num, allVal]
  refine callX_val rfl rfl (.inl rfl) (i_textOf (lstripT v.document)) ?_
  simp [tx, num, allVal]
  refine callX_val rfl rfl (.inl rfl) (i_textOf v.directive) ?_
  simp [tx, num, allVal]
  refine callX_val rfl rfl (.inl rfl) (i_numberOf v.line) ?_
  simp [tx, num, allVal]
  refine callX_val rfl rfl (.inl rfl) (i_StripText v.referrer (by omega)) ?_
  simp [tx, num, allVal]
  refine callX_val rfl rfl (.inl rfl) (i_textOf (lstripT v.referrer)) ?_
  simp [tx, num, allVal]
  refine callX_val rfl rfl (.inl rfl) (i_textOf (v.sample.take 40)) ?_
  simp [tx, num, allVal]
  refine callX_val rfl rfl (.inl rfl) (i_source v (by omega) (by omega)) ?_
  simp [tx, num, allVal]
  refine callX_val rfl rfl (.inl rfl) (i_textOf (lsource v)) ?_
  simp [tx, num, allVal, elems, jt, jn, rvJson_mk, RV.one, PV.kill, PV.killL]
  refine resP_json (id := 2) (cs := [.val (num 6), .val (num 0), .val (tx []), .val (.list 1 (bNames.map tx)), .val (.list 5 ((bItems v).map rvJson))]) ?_ ?_ ?_
  · simp
  · simp [tx, num, bNames, bs, bItems, jt, jn, rvJson_mk]
  · simp [PV.frzL, PV.frz, PV.plL, PV.pl, frzOf, lbody, rvJson_mk, tx, num]
end
end Go.Proofs
end
