/- Ei: merged out of IRgg, IRhh, KJd, KJe, KJf. -/
import Derived.Test.YtaohlnejdphldaaGreatDoorPWv
import Derived.Test.YtaohlnejdphldaaGreatDoorChecked
import Derived.KernelRfl
import Derived.Test.YtaohlnejdphldaaGreatDoorCa
import Derived.Test.YtaohlnejdphldaaGreatDoorAc
import Derived.Test.YtaohlnejdphldaaGreatDoorEg

/- Functions of the seat as data. MADE BY PROGRAM (print_ir.py). -/
section
set_option maxRecDepth 100000
namespace Go.Proofs
open Go.PW Go.PW.I

/-- slices.Equal[[]impl.Peer,impl.Peer] -/
def ir98 : PC := .seq (.reg [o 4 (.mov F)]) (.seq (.seq (.reg [m 6 0, o 7 (.len (.t 6)), m 8 1, o 9 (.len (.t 8)), o 10 (.bin .neq (.t 7) (.t 9))]) (.cond (.t 10) (.seq (.reg [o 4
 (.mov F)]) (.ret)) (.skip))) (.seq (.seq (.reg [m 11 0, o 12 (.len (.t 11)), o 13 (.mov (i 0))]) (.block 0 (.loop (.ghost (.seq (.reg [o 14 (.bin .lss (.t 13) (.t 12))]) (.seq
 (.cond (.t 14) (.skip) (.exit 0)) (.seq (.block 1 (.seq (.reg [m 15 13, m 5 15]) (.seq (.draw [m 16 0, m 17 5, o 18 (.iaddr 6 (.t 16) (.t 17)), o 19 (.load true 6 (.t 18)), m 20 1,
 m 21 5, o 22 (.iaddr 6 (.t 20) (.t 21)), o 23 (.load true 6 (.t 22))] [o 24 (.eqs true [0, 2, 2, 2, 2, 1] (.t 19) (.t 23))]) (.cond (.t 24) (.seq (.reg [o 4 (.mov F)]) (.ret))
 (.skip))))) (.reg [o 25 (.bin .add (.t 13) (i 1)), m 13 25])))))))) (.seq (.reg [o 4 (.mov T)]) (.ret))))
theorem ok98 : chkFn Tryz.prog 98 ir98 2 [.t 4] = true := by kernel_rfl
/-- slices.Equal[[]impl.Report,impl.Report] -/
def ir147 : PC := .seq (.reg [o 4 (.mov F)]) (.seq (.seq (.reg [m 6 0, o 7 (.len (.t 6)), m 8 1, o 9 (.len (.t 8)), o 10 (.bin .neq (.t 7) (.t 9))]) (.cond (.t 10) (.seq (.reg [o 4
 (.mov F)]) (.ret)) (.skip))) (.seq (.seq (.reg [m 11 0, o 12 (.len (.t 11)), o 13 (.mov (i 0))]) (.block 0 (.loop (.ghost (.seq (.reg [o 14 (.bin .lss (.t 13) (.t 12))]) (.seq
 (.cond (.t 14) (.skip) (.exit 0)) (.seq (.block 1 (.seq (.reg [m 15 13, m 5 15]) (.seq (.draw [m 16 0, m 17 5, o 18 (.iaddr 4 (.t 16) (.t 17)), o 19 (.load true 4 (.t 18)), m 20 1,
 m 21 5, o 22 (.iaddr 4 (.t 20) (.t 21)), o 23 (.load true 4 (.t 22))] [o 24 (.eqs true [2, 2, 2, 0] (.t 19) (.t 23))]) (.cond (.t 24) (.seq (.reg [o 4 (.mov F)]) (.ret))
 (.skip))))) (.reg [o 25 (.bin .add (.t 13) (i 1)), m 13 25])))))))) (.seq (.reg [o 4 (.mov T)]) (.ret))))
theorem ok147 : chkFn Tryz.prog 147 ir147 2 [.t 4] = true := by kernel_rfl
/-- slices.Equal[[]impl.Entry,impl.Entry] -/
def ir55 : PC := .seq (.reg [o 4 (.mov F)]) (.seq (.seq (.reg [m 6 0, o 7 (.len (.t 6)), m 8 1, o 9 (.len (.t 8)), o 10 (.bin .neq (.t 7) (.t 9))]) (.cond (.t 10) (.seq (.reg [o 4
 (.mov F)]) (.ret)) (.skip))) (.seq (.seq (.reg [m 11 0, o 12 (.len (.t 11)), o 13 (.mov (i 0))]) (.block 0 (.loop (.ghost (.seq (.reg [o 14 (.bin .lss (.t 13) (.t 12))]) (.seq
 (.cond (.t 14) (.skip) (.exit 0)) (.seq (.block 1 (.seq (.reg [m 15 13, m 5 15]) (.seq (.draw [m 16 0, m 17 5, o 18 (.iaddr 3 (.t 16) (.t 17)), o 19 (.load true 3 (.t 18)), m 20 1,
 m 21 5, o 22 (.iaddr 3 (.t 20) (.t 21)), o 23 (.load true 3 (.t 22))] [o 24 (.eqs true [2, 2, 2] (.t 19) (.t 23))]) (.cond (.t 24) (.seq (.reg [o 4 (.mov F)]) (.ret)) (.skip)))))
 (.reg [o 25 (.bin .add (.t 13) (i 1)), m 13 25])))))))) (.seq (.reg [o 4 (.mov T)]) (.ret))))
theorem ok55 : chkFn Tryz.prog 55 ir55 2 [.t 4] = true := by kernel_rfl
/-- slices.Equal[[]int,int] -/
def ir103 : PC := .seq (.reg [o 4 (.mov F)]) (.seq (.seq (.reg [m 6 0, o 7 (.len (.t 6)), m 8 1, o 9 (.len (.t 8)), o 10 (.bin .neq (.t 7) (.t 9))]) (.cond (.t 10) (.seq (.reg [o 4
 (.mov F)]) (.ret)) (.skip))) (.seq (.seq (.reg [m 11 0, o 12 (.len (.t 11)), o 13 (.mov (i 0))]) (.block 0 (.loop (.ghost (.seq (.reg [o 14 (.bin .lss (.t 13) (.t 12))]) (.seq
 (.cond (.t 14) (.skip) (.exit 0)) (.seq (.block 1 (.seq (.reg [m 15 13, m 5 15]) (.seq (.draw [m 16 0, m 17 5, o 18 (.iaddr 1 (.t 16) (.t 17)), l 19 18, m 20 1, m 21 5, o 22
 (.iaddr 1 (.t 20) (.t 21)), l 23 22] [o 24 (.bin .neq (.t 19) (.t 23))]) (.cond (.t 24) (.seq (.reg [o 4 (.mov F)]) (.ret)) (.skip))))) (.reg [o 25 (.bin .add (.t 13) (i 1)), m 13
 25])))))))) (.seq (.reg [o 4 (.mov T)]) (.ret))))
theorem ok103 : chkFn Tryz.prog 103 ir103 2 [.t 4] = true := by kernel_rfl
/-- slices.EqualFunc[[]impl.Channel,[]impl.Channel,impl.Channel,impl.Channel] -/
def ir52 : PC := .seq (.reg [o 6 (.mov F)]) (.seq (.seq (.reg [m 10 0, o 11 (.len (.t 10)), m 12 1, o 13 (.len (.t 12)), o 14 (.bin .neq (.t 11) (.t 13))]) (.cond (.t 14) (.seq
 (.reg [o 6 (.mov F)]) (.ret)) (.skip))) (.seq (.seq (.reg [m 15 0, o 16 (.len (.t 15)), o 17 (.mov (i 0))]) (.block 0 (.loop (.ghost (.seq (.reg [o 18 (.bin .lss (.t 17) (.t 16))])
 (.seq (.cond (.t 18) (.skip) (.exit 0)) (.seq (.block 1 (.seq (.reg [m 19 17, o 20 (.iaddr 6 (.t 15) (.t 17)), o 21 (.load true 6 (.t 20)), o 8 (.alloc [.val (.str ⟨#[]⟩), .val
 (.int .i64 0), .emp 3, .emp 6, .emp 4, .emp 1]), m 7 19, n (.store 6 (.t 8) (.t 21))]) (.seq (.reg [m 22 1, m 23 7, o 24 (.iaddr 6 (.t 22) (.t 23)), o 25 (.load true 6 (.t 24)), o
 9 (.alloc [.val (.str ⟨#[]⟩), .val (.int .i64 0), .emp 3, .emp 6, .emp 4, .emp 1]), n (.store 6 (.t 9) (.t 25))]) (.seq (.reg [m 26 2, o 27 (.load true 6 (.t 8)), o 28 (.load true
 6 (.t 9)), o 29 (.callv (.t 26) [.t 27, .t 28]), o 30 (.un .not (.t 29))]) (.cond (.t 30) (.seq (.reg [o 6 (.mov F)]) (.ret)) (.skip)))))) (.reg [o 31 (.bin .add (.t 17) (i 1)), m
 17 31])))))))) (.seq (.reg [o 6 (.mov T)]) (.ret))))
theorem ok52 : chkFn Tryz.prog 52 ir52 3 [.t 6] = true := by kernel_rfl
/-- slices.EqualFunc[[]impl.Wire,[]impl.Wire,impl.Wire,impl.Wire] -/
def ir56 : PC := .seq (.reg [o 6 (.mov F)]) (.seq (.seq (.reg [m 10 0, o 11 (.len (.t 10)), m 12 1, o 13 (.len (.t 12)), o 14 (.bin .neq (.t 11) (.t 13))]) (.cond (.t 14) (.seq
 (.reg [o 6 (.mov F)]) (.ret)) (.skip))) (.seq (.seq (.reg [m 15 0, o 16 (.len (.t 15)), o 17 (.mov (i 0))]) (.block 0 (.loop (.ghost (.seq (.reg [o 18 (.bin .lss (.t 17) (.t 16))])
 (.seq (.cond (.t 18) (.skip) (.exit 0)) (.seq (.block 1 (.seq (.reg [m 19 17, o 20 (.iaddr 7 (.t 15) (.t 17)), o 21 (.load true 7 (.t 20)), o 8 (.alloc [.val (.int .i64 0), .val
 (.int .i64 0), .val (.str ⟨#[]⟩), .val (.str ⟨#[]⟩), .emp 1, .val (.str ⟨#[]⟩), .val (.bool false)]), m 7 19, n (.store 7 (.t 8) (.t 21))]) (.seq (.reg [m 22 1, m 23 7, o 24
 (.iaddr 7 (.t 22) (.t 23)), o 25 (.load true 7 (.t 24)), o 9 (.alloc [.val (.int .i64 0), .val (.int .i64 0), .val (.str ⟨#[]⟩), .val (.str ⟨#[]⟩), .emp 1, .val (.str ⟨#[]⟩), .val
 (.bool false)]), n (.store 7 (.t 9) (.t 25))]) (.seq (.reg [m 26 2, o 27 (.load true 7 (.t 8)), o 28 (.load true 7 (.t 9)), o 29 (.callv (.t 26) [.t 27, .t 28]), o 30 (.un .not (.t
 29))]) (.cond (.t 30) (.seq (.reg [o 6 (.mov F)]) (.ret)) (.skip)))))) (.reg [o 31 (.bin .add (.t 17) (i 1)), m 17 31])))))))) (.seq (.reg [o 6 (.mov T)]) (.ret))))
theorem ok56 : chkFn Tryz.prog 56 ir56 3 [.t 6] = true := by kernel_rfl
/-- slices.EqualFunc[[]impl.Rule,[]impl.Rule,impl.Rule,impl.Rule] -/
def ir101 : PC := .seq (.reg [o 6 (.mov F)]) (.seq (.seq (.reg [m 10 0, o 11 (.len (.t 10)), m 12 1, o 13 (.len (.t 12)), o 14 (.bin .neq (.t 11) (.t 13))]) (.cond (.t 14) (.seq
 (.reg [o 6 (.mov F)]) (.ret)) (.skip))) (.seq (.seq (.reg [m 15 0, o 16 (.len (.t 15)), o 17 (.mov (i 0))]) (.block 0 (.loop (.ghost (.seq (.reg [o 18 (.bin .lss (.t 17) (.t 16))])
 (.seq (.cond (.t 18) (.skip) (.exit 0)) (.seq (.block 1 (.seq (.reg [m 19 17, o 20 (.iaddr 2 (.t 15) (.t 17)), o 21 (.load true 2 (.t 20)), o 8 (.alloc [.val (.str ⟨#[]⟩), .emp
 1]), m 7 19, n (.store 2 (.t 8) (.t 21))]) (.seq (.reg [m 22 1, m 23 7, o 24 (.iaddr 2 (.t 22) (.t 23)), o 25 (.load true 2 (.t 24)), o 9 (.alloc [.val (.str ⟨#[]⟩), .emp 1]), n
 (.store 2 (.t 9) (.t 25))]) (.seq (.reg [m 26 2, o 27 (.load true 2 (.t 8)), o 28 (.load true 2 (.t 9)), o 29 (.callv (.t 26) [.t 27, .t 28]), o 30 (.un .not (.t 29))]) (.cond (.t
 30) (.seq (.reg [o 6 (.mov F)]) (.ret)) (.skip)))))) (.reg [o 31 (.bin .add (.t 17) (i 1)), m 17 31])))))))) (.seq (.reg [o 6 (.mov T)]) (.ret))))
theorem ok101 : chkFn Tryz.prog 101 ir101 3 [.t 6] = true := by kernel_rfl
end Go.Proofs
end

/- Functions of the seat as data. MADE BY PROGRAM (print_ir.py). -/
section
set_option maxRecDepth 100000
namespace Go.Proofs
open Go.PW Go.PW.I

def ir51_from3 : PC := .seq (.seq (.reg [o 6 (.mov (i 0))]) (.block 2 (.loop (.ghost (.seq (.seq (.reg [m 75 6, o 76 (.faddr 6 (.t 2)), l 77 76, o 78 (.len (.t 77)), o 79 (.bin .lss
 (.t 75) (.t 78))]) (.cond (.t 79) (.skip) (.exit 2))) (.seq (.block 3 (.seq (.draw [o 82 (.faddr 6 (.t 2)), l 83 82, m 84 6, o 85 (.iaddr 3 (.t 83) (.t 84)), o 86 (.load true 3 (.t
 85)), o 87 (.faddr 6 (.t 3)), l 88 87, m 89 6, o 90 (.iaddr 3 (.t 88) (.t 89)), o 91 (.load true 3 (.t 90))] [o 92 (.eqs true [2, 2, 2] (.t 86) (.t 91))]) (.cond (.t 92) (.seq
 (.reg [o 4 (.mov F)]) (.ret)) (.skip)))) (.reg [m 80 6, o 81 (.bin .add (.t 80) (i 1)), m 6 81]))))))) (.seq (.seq (.reg [o 7 (.mov (i 0))]) (.block 4 (.loop (.ghost (.seq (.seq
 (.reg [m 93 7, o 94 (.faddr 7 (.t 2)), l 95 94, o 96 (.len (.t 95)), o 97 (.bin .lss (.t 93) (.t 96))]) (.cond (.t 97) (.skip) (.exit 4))) (.seq (.block 5 (.seq (.draw [o 100
 (.faddr 7 (.t 2)), l 101 100, m 102 7, o 103 (.iaddr 7 (.t 101) (.t 102)), o 104 (.load true 7 (.t 103)), o 105 (.faddr 7 (.t 3)), l 106 105, m 107 7, o 108 (.iaddr 7 (.t 106) (.t
 107)), o 109 (.load true 7 (.t 108)), o 110 (.call 96 [.t 104, .t 109]), o 111 (.un .not (.t 110))] []) (.cond (.t 111) (.seq (.reg [o 4 (.mov F)]) (.ret)) (.skip)))) (.reg [m 98
 7, o 99 (.bin .add (.t 98) (i 1)), m 7 99]))))))) (.seq (.reg [o 4 (.mov T)]) (.ret)))
def ir51_from2 : PC := .seq (.seq (.reg [o 5 (.mov (i 0))]) (.block 0 (.loop (.ghost (.seq (.seq (.reg [m 56 5, o 57 (.faddr 0 (.t 2)), l 58 57, o 59 (.len (.t 58)), o 60 (.bin .lss
 (.t 56) (.t 59))]) (.cond (.t 60) (.skip) (.exit 0))) (.seq (.block 1 (.seq (.draw [o 63 (.faddr 0 (.t 2)), l 64 63, m 65 5, o 66 (.iaddr 6 (.t 64) (.t 65)), o 67 (.load true 6 (.t
 66)), o 68 (.faddr 0 (.t 3)), l 69 68, m 70 5, o 71 (.iaddr 6 (.t 69) (.t 70)), o 72 (.load true 6 (.t 71)), o 73 (.call 95 [.t 67, .t 72]), o 74 (.un .not (.t 73))] []) (.cond (.t
 74) (.seq (.reg [o 4 (.mov F)]) (.ret)) (.skip)))) (.reg [m 61 5, o 62 (.bin .add (.t 61) (i 1)), m 5 62]))))))) (ir51_from3)
def ir51_from1 : PC := .seq (.seq (.draw [o 8 (.faddr 0 (.t 2)), l 9 8, o 10 (.len (.t 9)), o 11 (.faddr 0 (.t 3)), l 12 11, o 13 (.len (.t 12)), o 14 (.bin .neq (.t 10) (.t 13)), m
 15 14, g 16 15 false (.faddr 1 (.t 2)), g 17 15 false (.load true 3 (.t 16)), g 18 15 false (.call 94 [.t 17]), g 19 15 false (.faddr 1 (.t 3)), g 20 15 false (.load true 3 (.t
 19)), g 21 15 false (.call 94 [.t 20]), g 22 15 false (.bin .neq (.t 18) (.t 21)), o 23 (.pick (.t 15) T (.t 22)), m 24 23, g 25 24 false (.faddr 4 (.t 2)), g 26 24 false (.load
 false 1 (.t 25)), g 27 24 false (.faddr 4 (.t 3)), g 28 24 false (.load false 1 (.t 27)), g 29 24 false (.bin .neq (.t 26) (.t 28)), o 30 (.pick (.t 24) T (.t 29)), m 31 30, g 32
 31 false (.faddr 5 (.t 2)), g 33 31 false (.load false 1 (.t 32)), g 34 31 false (.faddr 5 (.t 3)), g 35 31 false (.load false 1 (.t 34)), g 36 31 false (.bin .neq (.t 33) (.t
 35)), o 37 (.pick (.t 31) T (.t 36)), m 38 37, g 39 38 false (.faddr 6 (.t 2)), g 40 38 false (.load false 1 (.t 39)), g 41 38 false (.len (.t 40)), g 42 38 false (.faddr 6 (.t
 3)), g 43 38 false (.load false 1 (.t 42)), g 44 38 false (.len (.t 43)), g 45 38 false (.bin .neq (.t 41) (.t 44)), o 46 (.pick (.t 38) T (.t 45)), m 47 46, g 48 47 false (.faddr
 7 (.t 2)), g 49 47 false (.load false 1 (.t 48)), g 50 47 false (.len (.t 49)), g 51 47 false (.faddr 7 (.t 3)), g 52 47 false (.load false 1 (.t 51)), g 53 47 false (.len (.t
 52)), g 54 47 false (.bin .neq (.t 50) (.t 53)), o 55 (.pick (.t 47) T (.t 54))] []) (.cond (.t 55) (.seq (.reg [o 4 (.mov F)]) (.ret)) (.skip))) (ir51_from2)
/-- spec.l08Same -/
def ir51 : PC := .seq (.reg [o 2 (.box (.t 0)), o 3 (.box (.t 1)), o 4 (.mov F)]) (ir51_from1)
theorem ok51 : chkFn Tryz.prog 51 ir51 2 [.t 4] = true := by kernel_rfl
/-- spec.SamePipe -/
def ir18 : PC := .seq (.reg [o 2 (.box (.t 0)), o 3 (.box (.t 1)), o 4 (.mov F)]) (.seq (.reg [o 5 (.load true 8 (.t 2)), o 6 (.call 28 [.t 5]), m 7 6, g 8 7 true (.load true 8 (.t
 3)), g 9 7 true (.call 28 [.t 8]), o 10 (.pick (.t 7) (.t 9) F), m 11 10, g 12 11 true (.load true 8 (.t 2)), g 13 11 true (.load true 8 (.t 3)), g 14 11 true (.call 51 [.t 12, .t
 13]), o 15 (.pick (.t 11) (.t 14) F), m 4 15]) (.ret))
theorem ok18 : chkFn Tryz.prog 18 ir18 2 [.t 4] = true := by kernel_rfl
/-- impl.SamePipe -/
def ir19 : PC := .seq (.reg [o 2 (.box (.t 0)), o 3 (.box (.t 1)), o 4 (.mov F)]) (.seq (.reg [o 5 (.load true 8 (.t 2)), o 6 (.call 34 [.t 5]), m 7 6, g 8 7 true (.load true 8 (.t
 3)), g 9 7 true (.call 34 [.t 8]), o 10 (.pick (.t 7) (.t 9) F), m 11 10, g 12 11 true (.faddr 0 (.t 2)), g 13 11 true (.load false 1 (.t 12)), g 14 11 true (.faddr 0 (.t 3)), g 15
 11 true (.load false 1 (.t 14)), g 16 11 true (.call 52 [.t 13, .t 15, .k (.fn 53 [])]), o 17 (.pick (.t 11) (.t 16) F), m 18 17, g 19 18 true (.faddr 1 (.t 2)), g 20 18 true
 (.load true 3 (.t 19)), g 21 18 true (.faddr 1 (.t 3)), g 22 18 true (.load true 3 (.t 21)), g 23 18 true (.call 54 [.t 20, .t 22]), o 24 (.pick (.t 18) (.t 23) F), m 25 24, g 26
 25 true (.faddr 4 (.t 2)), g 27 25 true (.load false 1 (.t 26)), g 28 25 true (.faddr 4 (.t 3)), g 29 25 true (.load false 1 (.t 28)), g 30 25 true (.bin .eql (.t 27) (.t 29)), o
 31 (.pick (.t 25) (.t 30) F), m 32 31, g 33 32 true (.faddr 5 (.t 2)), g 34 32 true (.load false 1 (.t 33)), g 35 32 true (.faddr 5 (.t 3)), g 36 32 true (.load false 1 (.t 35)), g
 37 32 true (.bin .eql (.t 34) (.t 36)), o 38 (.pick (.t 32) (.t 37) F), m 39 38, g 40 39 true (.faddr 6 (.t 2)), g 41 39 true (.load false 1 (.t 40)), g 42 39 true (.faddr 6 (.t
 3)), g 43 39 true (.load false 1 (.t 42)), g 44 39 true (.call 55 [.t 41, .t 43]), o 45 (.pick (.t 39) (.t 44) F), m 46 45, g 47 46 true (.faddr 7 (.t 2)), g 48 46 true (.load
 false 1 (.t 47)), g 49 46 true (.faddr 7 (.t 3)), g 50 46 true (.load false 1 (.t 49)), g 51 46 true (.call 56 [.t 48, .t 50, .k (.fn 57 [])]), o 52 (.pick (.t 46) (.t 51) F), m 4
 52]) (.ret))
theorem ok19 : chkFn Tryz.prog 19 ir19 2 [.t 4] = true := by kernel_rfl
/-- (impl.Channel).same -/
def ir53 : PC := .seq (.reg [o 2 (.box (.t 0)), o 3 (.box (.t 1)), o 4 (.mov F)]) (.seq (.reg [o 5 (.faddr 0 (.t 2)), o 6 (.load true 3 (.t 5)), o 7 (.faddr 0 (.t 3)), o 8 (.load
 true 3 (.t 7)), o 9 (.call 97 [.t 6, .t 8]), m 10 9, g 11 10 true (.faddr 3 (.t 2)), g 12 10 true (.load false 1 (.t 11)), g 13 10 true (.faddr 3 (.t 3)), g 14 10 true (.load false
 1 (.t 13)), g 15 10 true (.call 98 [.t 12, .t 14]), o 16 (.pick (.t 10) (.t 15) F), m 17 16, g 18 17 true (.faddr 4 (.t 2)), g 19 17 true (.load true 2 (.t 18)), g 20 17 true
 (.faddr 4 (.t 3)), g 21 17 true (.load true 2 (.t 20)), g 22 17 true (.call 99 [.t 19, .t 21]), o 23 (.pick (.t 17) (.t 22) F), m 4 23]) (.ret))
theorem ok53 : chkFn Tryz.prog 53 ir53 2 [.t 4] = true := by kernel_rfl
/-- (impl.Policy).same -/
def ir54 : PC := .seq (.reg [o 2 (.box (.t 0)), o 3 (.box (.t 1)), o 4 (.mov F)]) (.seq (.reg [o 5 (.faddr 0 (.t 2)), l 6 5, o 7 (.faddr 0 (.t 3)), l 8 7, o 9 (.bin .eql (.t 6) (.t
 8)), m 10 9, g 11 10 true (.faddr 1 (.t 2)), g 12 10 true (.load false 1 (.t 11)), g 13 10 true (.faddr 1 (.t 3)), g 14 10 true (.load false 1 (.t 13)), g 15 10 true (.call 100 [.t
 12, .t 14]), o 16 (.pick (.t 10) (.t 15) F), m 17 16, g 18 17 true (.faddr 2 (.t 2)), g 19 17 true (.load false 1 (.t 18)), g 20 17 true (.faddr 2 (.t 3)), g 21 17 true (.load
 false 1 (.t 20)), g 22 17 true (.call 101 [.t 19, .t 21, .k (.fn 102 [])]), o 23 (.pick (.t 17) (.t 22) F), m 4 23]) (.ret))
theorem ok54 : chkFn Tryz.prog 54 ir54 2 [.t 4] = true := by kernel_rfl
/-- (impl.Policy).same$1 -/
def ir102 : PC := .seq (.reg [o 2 (.box (.t 0)), o 3 (.box (.t 1)), o 4 (.mov F)]) (.seq (.reg [o 5 (.faddr 0 (.t 2)), l 6 5, o 7 (.faddr 0 (.t 3)), l 8 7, o 9 (.bin .eql (.t 6) (.t
 8)), m 10 9, g 11 10 true (.faddr 1 (.t 2)), g 12 10 true (.load false 1 (.t 11)), g 13 10 true (.faddr 1 (.t 3)), g 14 10 true (.load false 1 (.t 13)), g 15 10 true (.call 100 [.t
 12, .t 14]), o 16 (.pick (.t 10) (.t 15) F), m 4 16]) (.ret))
theorem ok102 : chkFn Tryz.prog 102 ir102 2 [.t 4] = true := by kernel_rfl
/-- (impl.Wire).same -/
def ir57 : PC := .seq (.reg [o 2 (.box (.t 0)), o 3 (.box (.t 1)), o 4 (.mov F)]) (.seq (.reg [o 5 (.faddr 0 (.t 2)), l 6 5, o 7 (.faddr 0 (.t 3)), l 8 7, o 9 (.bin .eql (.t 6) (.t
 8)), m 10 9, g 11 10 true (.faddr 1 (.t 2)), g 12 10 true (.load false 1 (.t 11)), g 13 10 true (.faddr 1 (.t 3)), g 14 10 true (.load false 1 (.t 13)), g 15 10 true (.bin .eql (.t
 12) (.t 14)), o 16 (.pick (.t 10) (.t 15) F), m 17 16, g 18 17 true (.faddr 2 (.t 2)), g 19 17 true (.load false 1 (.t 18)), g 20 17 true (.faddr 2 (.t 3)), g 21 17 true (.load
 false 1 (.t 20)), g 22 17 true (.bin .eql (.t 19) (.t 21)), o 23 (.pick (.t 17) (.t 22) F), m 24 23, g 25 24 true (.faddr 3 (.t 2)), g 26 24 true (.load false 1 (.t 25)), g 27 24
 true (.faddr 3 (.t 3)), g 28 24 true (.load false 1 (.t 27)), g 29 24 true (.bin .eql (.t 26) (.t 28)), o 30 (.pick (.t 24) (.t 29) F), m 31 30, g 32 31 true (.faddr 4 (.t 2)), g
 33 31 true (.load false 1 (.t 32)), g 34 31 true (.faddr 4 (.t 3)), g 35 31 true (.load false 1 (.t 34)), g 36 31 true (.call 103 [.t 33, .t 35]), o 37 (.pick (.t 31) (.t 36) F), m
 38 37, g 39 38 true (.faddr 5 (.t 2)), g 40 38 true (.load false 1 (.t 39)), g 41 38 true (.faddr 5 (.t 3)), g 42 38 true (.load false 1 (.t 41)), g 43 38 true (.bin .eql (.t 40)
 (.t 42)), o 44 (.pick (.t 38) (.t 43) F), m 45 44, g 46 45 true (.faddr 6 (.t 2)), g 47 45 true (.load false 1 (.t 46)), g 48 45 true (.faddr 6 (.t 3)), g 49 45 true (.load false 1
 (.t 48)), g 50 45 true (.eqb false (.t 47) (.t 49)), o 51 (.pick (.t 45) (.t 50) F), m 4 51]) (.ret))
theorem ok57 : chkFn Tryz.prog 57 ir57 2 [.t 4] = true := by kernel_rfl
/-- (impl.Group).same -/
def ir97 : PC := .seq (.reg [o 2 (.box (.t 0)), o 3 (.box (.t 1)), o 4 (.mov F)]) (.seq (.reg [o 5 (.faddr 0 (.t 2)), l 6 5, o 7 (.faddr 0 (.t 3)), l 8 7, o 9 (.bin .eql (.t 6) (.t
 8)), m 10 9, g 11 10 true (.faddr 1 (.t 2)), g 12 10 true (.load false 1 (.t 11)), g 13 10 true (.faddr 1 (.t 3)), g 14 10 true (.load false 1 (.t 13)), g 15 10 true (.bin .eql (.t
 12) (.t 14)), o 16 (.pick (.t 10) (.t 15) F), m 17 16, g 18 17 true (.faddr 2 (.t 2)), g 19 17 true (.load false 1 (.t 18)), g 20 17 true (.faddr 2 (.t 3)), g 21 17 true (.load
 false 1 (.t 20)), g 22 17 true (.call 128 [.t 19, .t 21]), o 23 (.pick (.t 17) (.t 22) F), m 4 23]) (.ret))
theorem ok97 : chkFn Tryz.prog 97 ir97 2 [.t 4] = true := by kernel_rfl
/-- (impl.Queue).same -/
def ir99 : PC := .seq (.reg [o 2 (.box (.t 0)), o 3 (.box (.t 1)), o 4 (.mov F)]) (.seq (.reg [o 5 (.faddr 0 (.t 2)), l 6 5, o 7 (.faddr 0 (.t 3)), l 8 7, o 9 (.call 147 [.t 6, .t
 8]), m 10 9, g 11 10 true (.faddr 1 (.t 2)), g 12 10 true (.load false 1 (.t 11)), g 13 10 true (.faddr 1 (.t 3)), g 14 10 true (.load false 1 (.t 13)), g 15 10 true (.call 100 [.t
 12, .t 14]), o 16 (.pick (.t 10) (.t 15) F), m 4 16]) (.ret))
theorem ok99 : chkFn Tryz.prog 99 ir99 2 [.t 4] = true := by kernel_rfl
/-- spec.l08SameChannel -/
def ir95 : PC := .seq (.reg [o 2 (.box (.t 0)), o 3 (.box (.t 1)), o 4 (.mov F)]) (.seq (.seq (.reg [o 6 (.faddr 0 (.t 2)), o 7 (.load true 3 (.t 6)), o 8 (.faddr 0 (.t 3)), o 9
 (.load true 3 (.t 8)), o 10 (.call 144 [.t 7, .t 9]), o 11 (.un .not (.t 10)), m 12 11, g 13 12 false (.faddr 3 (.t 2)), g 14 12 false (.load false 1 (.t 13)), g 15 12 false (.len
 (.t 14)), g 16 12 false (.faddr 3 (.t 3)), g 17 12 false (.load false 1 (.t 16)), g 18 12 false (.len (.t 17)), g 19 12 false (.bin .neq (.t 15) (.t 18)), o 20 (.pick (.t 12) T (.t
 19)), m 21 20, g 22 21 false (.faddr 4 (.t 2)), g 23 21 false (.load true 2 (.t 22)), g 24 21 false (.faddr 4 (.t 3)), g 25 21 false (.load true 2 (.t 24)), g 26 21 false (.call
 145 [.t 23, .t 25]), g 27 21 false (.un .not (.t 26)), o 28 (.pick (.t 21) T (.t 27))]) (.cond (.t 28) (.seq (.reg [o 4 (.mov F)]) (.ret)) (.skip))) (.seq (.seq (.reg [o 5 (.mov (i
 0))]) (.block 0 (.loop (.ghost (.seq (.seq (.reg [m 29 5, o 30 (.faddr 3 (.t 2)), l 31 30, o 32 (.len (.t 31)), o 33 (.bin .lss (.t 29) (.t 32))]) (.cond (.t 33) (.skip) (.exit
 0))) (.seq (.block 1 (.seq (.draw [o 36 (.faddr 3 (.t 2)), l 37 36, m 38 5, o 39 (.iaddr 6 (.t 37) (.t 38)), o 40 (.load true 6 (.t 39)), o 41 (.faddr 3 (.t 3)), l 42 41, m 43 5, o
 44 (.iaddr 6 (.t 42) (.t 43)), o 45 (.load true 6 (.t 44))] [o 46 (.eqs true [0, 2, 2, 2, 2, 1] (.t 40) (.t 45))]) (.cond (.t 46) (.seq (.reg [o 4 (.mov F)]) (.ret)) (.skip))))
 (.reg [m 34 5, o 35 (.bin .add (.t 34) (i 1)), m 5 35]))))))) (.seq (.reg [o 4 (.mov T)]) (.ret))))
theorem ok95 : chkFn Tryz.prog 95 ir95 2 [.t 4] = true := by kernel_rfl
/-- spec.l08SameWire -/
def ir96 : PC := .seq (.reg [o 2 (.box (.t 0)), o 3 (.box (.t 1)), o 4 (.mov F)]) (.seq (.reg [o 5 (.faddr 0 (.t 2)), l 6 5, o 7 (.faddr 0 (.t 3)), l 8 7, o 9 (.bin .eql (.t 6) (.t
 8)), m 10 9, g 11 10 true (.faddr 1 (.t 2)), g 12 10 true (.load false 1 (.t 11)), g 13 10 true (.faddr 1 (.t 3)), g 14 10 true (.load false 1 (.t 13)), g 15 10 true (.bin .eql (.t
 12) (.t 14)), o 16 (.pick (.t 10) (.t 15) F), m 17 16, g 18 17 true (.faddr 2 (.t 2)), g 19 17 true (.load false 1 (.t 18)), g 20 17 true (.faddr 2 (.t 3)), g 21 17 true (.load
 false 1 (.t 20)), g 22 17 true (.bin .eql (.t 19) (.t 21)), o 23 (.pick (.t 17) (.t 22) F), m 24 23, g 25 24 true (.faddr 3 (.t 2)), g 26 24 true (.load false 1 (.t 25)), g 27 24
 true (.faddr 3 (.t 3)), g 28 24 true (.load false 1 (.t 27)), g 29 24 true (.bin .eql (.t 26) (.t 28)), o 30 (.pick (.t 24) (.t 29) F), m 31 30, g 32 31 true (.faddr 4 (.t 2)), g
 33 31 true (.load false 1 (.t 32)), g 34 31 true (.faddr 4 (.t 3)), g 35 31 true (.load false 1 (.t 34)), g 36 31 true (.call 146 [.t 33, .t 35]), o 37 (.pick (.t 31) (.t 36) F), m
 38 37, g 39 38 true (.faddr 5 (.t 2)), g 40 38 true (.load false 1 (.t 39)), g 41 38 true (.faddr 5 (.t 3)), g 42 38 true (.load false 1 (.t 41)), g 43 38 true (.bin .eql (.t 40)
 (.t 42)), o 44 (.pick (.t 38) (.t 43) F), m 45 44, g 46 45 true (.faddr 6 (.t 2)), g 47 45 true (.load false 1 (.t 46)), g 48 45 true (.faddr 6 (.t 3)), g 49 45 true (.load false 1
 (.t 48)), g 50 45 true (.eqb false (.t 47) (.t 49)), o 51 (.pick (.t 45) (.t 50) F), m 4 51]) (.ret))
theorem ok96 : chkFn Tryz.prog 96 ir96 2 [.t 4] = true := by kernel_rfl
/-- spec.l03Same -/
def ir144 : PC := .seq (.reg [o 2 (.box (.t 0)), o 3 (.box (.t 1)), o 4 (.mov F)]) (.seq (.seq (.reg [o 6 (.faddr 0 (.t 2)), l 7 6, o 8 (.faddr 0 (.t 3)), l 9 8, o 10 (.bin .neq (.t
 7) (.t 9)), m 11 10, g 12 11 false (.faddr 1 (.t 2)), g 13 11 false (.load false 1 (.t 12)), g 14 11 false (.faddr 1 (.t 3)), g 15 11 false (.load false 1 (.t 14)), g 16 11 false
 (.bin .neq (.t 13) (.t 15)), o 17 (.pick (.t 11) T (.t 16)), m 18 17, g 19 18 false (.faddr 2 (.t 2)), g 20 18 false (.load false 1 (.t 19)), g 21 18 false (.len (.t 20)), g 22 18
 false (.faddr 2 (.t 3)), g 23 18 false (.load false 1 (.t 22)), g 24 18 false (.len (.t 23)), g 25 18 false (.bin .neq (.t 21) (.t 24)), o 26 (.pick (.t 18) T (.t 25))]) (.cond (.t
 26) (.seq (.reg [o 4 (.mov F)]) (.ret)) (.skip))) (.seq (.seq (.reg [o 5 (.mov (i 0))]) (.block 0 (.loop (.ghost (.seq (.seq (.reg [m 27 5, o 28 (.faddr 2 (.t 2)), l 29 28, o 30
 (.len (.t 29)), o 31 (.bin .lss (.t 27) (.t 30))]) (.cond (.t 31) (.skip) (.exit 0))) (.seq (.block 1 (.seq (.draw [o 34 (.faddr 2 (.t 2)), l 35 34, m 36 5, o 37 (.iaddr 3 (.t 35)
 (.t 36)), o 38 (.load true 3 (.t 37)), o 39 (.faddr 2 (.t 3)), l 40 39, m 41 5, o 42 (.iaddr 3 (.t 40) (.t 41)), o 43 (.load true 3 (.t 42))] [o 44 (.eqs true [0, 2, 2] (.t 38) (.t
 43))]) (.cond (.t 44) (.seq (.reg [o 4 (.mov F)]) (.ret)) (.skip)))) (.reg [m 32 5, o 33 (.bin .add (.t 32) (i 1)), m 5 33]))))))) (.seq (.reg [o 4 (.mov T)]) (.ret))))
theorem ok144 : chkFn Tryz.prog 144 ir144 2 [.t 4] = true := by kernel_rfl
/-- spec.l06Same -/
def ir145 : PC := .seq (.reg [o 2 (.box (.t 0)), o 3 (.box (.t 1)), o 4 (.mov F)]) (.seq (.seq (.reg [o 6 (.faddr 0 (.t 2)), l 7 6, o 8 (.len (.t 7)), o 9 (.faddr 0 (.t 3)), l 10 9,
 o 11 (.len (.t 10)), o 12 (.bin .neq (.t 8) (.t 11)), m 13 12, g 14 13 false (.faddr 1 (.t 2)), g 15 13 false (.load false 1 (.t 14)), g 16 13 false (.faddr 1 (.t 3)), g 17 13
 false (.load false 1 (.t 16)), g 18 13 false (.call 113 [.t 15, .t 17]), g 19 13 false (.un .not (.t 18)), o 20 (.pick (.t 13) T (.t 19))]) (.cond (.t 20) (.seq (.reg [o 4 (.mov
 F)]) (.ret)) (.skip))) (.seq (.seq (.reg [o 5 (.mov (i 0))]) (.block 0 (.loop (.ghost (.seq (.seq (.reg [m 21 5, o 22 (.faddr 0 (.t 2)), l 23 22, o 24 (.len (.t 23)), o 25 (.bin
 .lss (.t 21) (.t 24))]) (.cond (.t 25) (.skip) (.exit 0))) (.seq (.block 1 (.seq (.draw [o 28 (.faddr 0 (.t 2)), l 29 28, m 30 5, o 31 (.iaddr 4 (.t 29) (.t 30)), o 32 (.load true
 4 (.t 31)), o 33 (.faddr 0 (.t 3)), l 34 33, m 35 5, o 36 (.iaddr 4 (.t 34) (.t 35)), o 37 (.load true 4 (.t 36))] [o 38 (.eqs true [2, 2, 2, 0] (.t 32) (.t 37))]) (.cond (.t 38)
 (.seq (.reg [o 4 (.mov F)]) (.ret)) (.skip)))) (.reg [m 26 5, o 27 (.bin .add (.t 26) (i 1)), m 5 27]))))))) (.seq (.reg [o 4 (.mov T)]) (.ret))))
theorem ok145 : chkFn Tryz.prog 145 ir145 2 [.t 4] = true := by kernel_rfl
/-- spec.l00Same -/
def ir146 : PC := .seq (.reg [o 4 (.mov F)]) (.seq (.seq (.reg [m 6 0, o 7 (.len (.t 6)), m 8 1, o 9 (.len (.t 8)), o 10 (.bin .neq (.t 7) (.t 9))]) (.cond (.t 10) (.seq (.reg [o 4
 (.mov F)]) (.ret)) (.skip))) (.seq (.seq (.reg [o 5 (.mov (i 0))]) (.block 0 (.loop (.ghost (.seq (.seq (.reg [m 11 5, m 12 0, o 13 (.len (.t 12)), o 14 (.bin .lss (.t 11) (.t
 13))]) (.cond (.t 14) (.skip) (.exit 0))) (.seq (.block 1 (.seq (.draw [m 17 0, m 18 5, o 19 (.iaddr 1 (.t 17) (.t 18)), l 20 19, m 21 1, m 22 5, o 23 (.iaddr 1 (.t 21) (.t 22)), l
 24 23] [o 25 (.bin .neq (.t 20) (.t 24))]) (.cond (.t 25) (.seq (.reg [o 4 (.mov F)]) (.ret)) (.skip)))) (.reg [m 15 5, o 16 (.bin .add (.t 15) (i 1)), m 5 16]))))))) (.seq (.reg
 [o 4 (.mov T)]) (.ret))))
theorem ok146 : chkFn Tryz.prog 146 ir146 2 [.t 4] = true := by kernel_rfl
def ir94_s17 : PC := .seq (.reg [m 17 3, o 18 (.faddr 2 (.t 1)), l 19 18, m 20 4, o 21 (.iaddr 2 (.t 19) (.t 20)), o 22 (.faddr 0 (.t 21)), l 23 22, o 24 (.bin .add (.t 17) (.t
 23)), m 3 24]) (.seq (.reg [o 5 (.mov (i 0))]) (.block 2 (.loop (.ghost (.seq (.seq (.reg [m 25 5, o 26 (.faddr 2 (.t 1)), l 27 26, m 28 4, o 29 (.iaddr 2 (.t 27) (.t 28)), o 30
 (.faddr 1 (.t 29)), l 31 30, o 32 (.len (.t 31)), o 33 (.bin .lss (.t 25) (.t 32))]) (.cond (.t 33) (.skip) (.exit 2))) (.seq (.block 3 (.reg [m 36 3, o 37 (.faddr 2 (.t 1)), l 38
 37, m 39 4, o 40 (.iaddr 2 (.t 38) (.t 39)), o 41 (.faddr 1 (.t 40)), l 42 41, m 43 5, o 44 (.iaddr 1 (.t 42) (.t 43)), l 45 44, o 46 (.bin .add (z #[32]) (.t 45)), o 47 (.bin .add
 (.t 36) (.t 46)), m 3 47])) (.reg [m 34 5, o 35 (.bin .add (.t 34) (i 1)), m 5 35])))))))
/-- spec.l04Text -/
def ir94 : PC := .seq (.reg [o 1 (.box (.t 0)), o 2 (.mov (z #[]))]) (.seq (.reg [o 3 (.mov (z #[]))]) (.seq (.seq (.reg [o 4 (.mov (i 0))]) (.block 0 (.loop (.ghost (.seq (.seq
 (.reg [m 6 4, o 7 (.faddr 2 (.t 1)), l 8 7, o 9 (.len (.t 8)), o 10 (.bin .lss (.t 6) (.t 9))]) (.cond (.t 10) (.skip) (.exit 0))) (.seq (.block 1 (.seq (.seq (.reg [m 13 4, o 14
 (.bin .gtr (.t 13) (i 0))]) (.cond (.t 14) (.reg [m 15 3, o 16 (.bin .add (.t 15) (z #[59, 32])), m 3 16]) (.skip))) (ir94_s17))) (.reg [m 11 4, o 12 (.bin .add (.t 11) (i 1)), m 4
 12]))))))) (.seq (.reg [m 48 3, m 2 48]) (.ret))))
theorem ok94 : chkFn Tryz.prog 94 ir94 1 [.t 2] = true := by kernel_rfl
/-- laws.FnExactSamePipe -/
def ir6 : PC := .seq (.reg [o 2 (.box (.t 0)), o 3 (.box (.t 1)), o 4 (.mov F)]) (.seq (.reg [o 5 (.mov (i 1048576))]) (.seq (.reg [o 10 (.load true 8 (.t 2)), m 11 5, o 12 (.call 9
 [.t 10, .t 11]), m 5 12]) (.seq (.seq (.reg [m 13 5, o 14 (.bin .lss (.t 13) (i 0))]) (.cond (.t 14) (.seq (.reg [o 4 (.mov T)]) (.ret)) (.skip))) (.seq (.reg [o 15 (.load true 8
 (.t 3)), m 16 5, o 17 (.call 9 [.t 15, .t 16]), m 5 17]) (.seq (.seq (.reg [m 18 5, o 19 (.bin .lss (.t 18) (i 0))]) (.cond (.t 19) (.seq (.reg [o 4 (.mov T)]) (.ret)) (.skip)))
 (.seq (.draw [o 20 (.load true 8 (.t 2)), o 21 (.call 11 [.t 20]), o 22 (.load true 8 (.t 3))] [o 23 (.call 11 [.t 22]), o 24 (.call 18 [.t 21, .t 23]), m 6 24]) (.seq (.reg [o 25
 (.load true 8 (.t 2)), o 26 (.call 11 [.t 25]), o 7 (.alloc [.emp 6, .val (.str ⟨#[]⟩), .emp 1, .emp 2, .val (.int .i64 0), .val (.int .i64 0), .emp 3, .emp 7]), n (.store 8 (.t 7)
 (.t 26))]) (.seq (.reg [o 27 (.load true 8 (.t 3)), o 28 (.call 11 [.t 27]), o 8 (.alloc [.emp 6, .val (.str ⟨#[]⟩), .emp 1, .emp 2, .val (.int .i64 0), .val (.int .i64 0), .emp 3,
 .emp 7]), n (.store 8 (.t 8) (.t 28))]) (.seq (.reg [o 29 (.load true 8 (.t 7)), o 30 (.load true 8 (.t 8)), o 31 (.call 19 [.t 29, .t 30]), m 9 31]) (.seq (.seq (.reg [m 32 9, m
 33 6, o 34 (.eqb true (.t 32) (.t 33))]) (.cond (.t 34) (.seq (.reg [o 4 (.mov F)]) (.ret)) (.skip))) (.seq (.seq (.draw [o 35 (.load true 8 (.t 7)), o 36 (.load true 8 (.t 2)), o
 37 (.call 11 [.t 36])] [o 38 (.call 13 [.t 35, .t 37]), o 39 (.un .not (.t 38))]) (.cond (.t 39) (.seq (.reg [o 4 (.mov F)]) (.ret)) (.skip))) (.seq (.seq (.draw [o 40 (.load true
 8 (.t 8)), o 41 (.load true 8 (.t 3)), o 42 (.call 11 [.t 41])] [o 43 (.call 13 [.t 40, .t 42]), o 44 (.un .not (.t 43))]) (.cond (.t 44) (.seq (.reg [o 4 (.mov F)]) (.ret))
 (.skip))) (.seq (.reg [o 4 (.mov T)]) (.ret))))))))))))))
theorem ok6 : chkFn Tryz.prog 6 ir6 2 [.t 4] = true := by kernel_rfl
end Go.Proofs
end

/- What slices.* come to at some element types. MADE BY PROGRAM (gen_slices.py). -/
section
set_option maxRecDepth 100000
set_option linter.unusedVariables false
set_option linter.unusedSectionVars false
set_option linter.unusedSimpArgs false
namespace Go.Proofs
open Go.PW Go.KP
attribute [local simp] RV.cells RV.one PV.cells PV.solid PV.one vals? allVal mkAgg setAt RV.ofCells elems PV.killL
variable [GF]

theorem eqc_Peer (x y : LPeer) : eqCells [0, 2, 2, 2, 2, 1] [.str (bs x.target.url), .int .i64 x.target.prio, .int .i64 x.target.weight, .int .i64 x.fails, .int .i64 x.retry, .bool x.gone] [.str (bs y.target.url), .int .i64 y.target.prio, .int .i64 y.target.weight, .int .i64 y.fails, .int .i64 y.retry, .bool y.gone] = some (decide (x = y)) := by
  have key : x = y ↔ (x.target.url = y.target.url ∧ x.target.prio = y.target.prio ∧ x.target.weight = y.target.weight ∧ x.fails = y.fails ∧ x.retry = y.retry ∧ x.gone = y.gone) := by
    constructor
    · rintro rfl; simp
    · rintro ⟨h0, h1, h2, h3, h4, h5⟩
      obtain ⟨⟨atargeturl, atargetprio, atargetweight⟩, afails, aretry, agone⟩ := x
      obtain ⟨⟨btargeturl, btargetprio, btargetweight⟩, bfails, bretry, bgone⟩ := y
      simp_all
  rw [show decide (x = y) = decide (x.target.url = y.target.url ∧ x.target.prio = y.target.prio ∧ x.target.weight = y.target.weight ∧ x.fails = y.fails ∧ x.retry = y.retry ∧ x.gone = y.gone) from decide_eq_decide.2 key]
  simp [eqCells, eqCell, bs_inj]
  rw [Bool.eq_iff_iff]; simp
theorem i_Equal_Peer (a b : List LPeer) (ha : a.length < 1099511627776) (hb : b.length < 1099511627776) : CallOK Tryz.prog 98 [.val (.list 6 (a.map rvPeer)), .val (.list 6 (b.map rvPeer))] (.ret (.val (.bool (decide (a = b)))) []) [] := by
  refine call_val mixed ok98 rfl (fun _ => rfl) ?_
  unfold ir98
  rw [evalC_intro]
  by_cases hlen : a.length = b.length
  rotate_left
  · have h1 : ¬ (a.length : Int) = b.length := by omega
    have h2 : a ≠ b := fun e => hlen (by rw [e])
    simp [initSt, avPVs, avPV, avBoxesL, avBoxes, h1, h2]
  simp [initSt, avPVs, avPV, avBoxesL, avBoxes, num, hlen]
  refine loop_EC (X := Nat) (fun i => ⟨envOf [(0, .val (.list 6 (a.map rvPeer))), (1, .val (.list 6 (b.map rvPeer))), (12, .val (num b.length)), (13, .val (num i))], memOf []⟩) (fun i => i ≤ b.length ∧ a.take i = b.take i) (fun i => b.length - i) 0 (Le.mk _ _ ?_ ?_) ?_ ?_
  · simp [upd, num]
  · simp
  · simp
  · rintro i ⟨hi, heq⟩
    simp [num]
    refine iteP_intro (fun h1b => ?_) (fun h1 => ?_)
    · have h1 : i < a.length := by omega
      obtain ⟨x, hx⟩ : ∃ x, a[i] = x := ⟨_, rfl⟩
      obtain ⟨y, hy⟩ : ∃ y, b[i] = y := ⟨_, rfl⟩
      have wi : IntKind.i64.wrap ((i : Int) + 1) = ((i + 1 : Nat) : Int) := by rw [wrap_i64 (by omega) (by omega)]; omega
      simp [h1, h1b, hx, hy, rvTarget, rvPeer, tx, num, eqc_Peer, onSome]
      by_cases hu : x = y
      · simp [hu]
        refine LoopNext.mk (i + 1) ⟨by omega, ?_⟩ (by omega) (Le.mk _ _ ?_ ?_)
        · rw [List.take_add_one, List.take_add_one, List.getElem?_eq_getElem h1, List.getElem?_eq_getElem h1b, heq, hx, hy, hu]
        · simp [num, wi]
        · simp
      · have h2 : a ≠ b := fun e => hu (by subst e; rw [← hx, ← hy])
        simp [hu, h2]
    · have e : i = b.length := by omega
      subst e
      rw [← hlen, List.take_length, hlen, List.take_length] at heq
      simp [heq]

theorem eqc_Report (x y : LReport) : eqCells [2, 2, 2, 0] [.int .i64 x.id, .int .i64 x.born, .int .i64 x.tries, .str (bs x.body)] [.int .i64 y.id, .int .i64 y.born, .int .i64 y.tries, .str (bs y.body)] = some (decide (x = y)) := by
  have key : x = y ↔ (x.id = y.id ∧ x.born = y.born ∧ x.tries = y.tries ∧ x.body = y.body) := by
    constructor
    · rintro rfl; simp
    · rintro ⟨h0, h1, h2, h3⟩
      obtain ⟨aid, aborn, atries, abody⟩ := x
      obtain ⟨bid, bborn, btries, bbody⟩ := y
      simp_all
  rw [show decide (x = y) = decide (x.id = y.id ∧ x.born = y.born ∧ x.tries = y.tries ∧ x.body = y.body) from decide_eq_decide.2 key]
  simp [eqCells, eqCell, bs_inj]
  rw [Bool.eq_iff_iff]; simp
theorem i_Equal_Report (a b : List LReport) (ha : a.length < 1099511627776) (hb : b.length < 1099511627776) : CallOK Tryz.prog 147 [.val (.list 4 (a.map rvReport)), .val (.list 4 (b.map rvReport))] (.ret (.val (.bool (decide (a = b)))) []) [] := by
  refine call_val mixed ok147 rfl (fun _ => rfl) ?_
  unfold ir147
  rw [evalC_intro]
  by_cases hlen : a.length = b.length
  rotate_left
  · have h1 : ¬ (a.length : Int) = b.length := by omega
    have h2 : a ≠ b := fun e => hlen (by rw [e])
    simp [initSt, avPVs, avPV, avBoxesL, avBoxes, h1, h2]
  simp [initSt, avPVs, avPV, avBoxesL, avBoxes, num, hlen]
  refine loop_EC (X := Nat) (fun i => ⟨envOf [(0, .val (.list 4 (a.map rvReport))), (1, .val (.list 4 (b.map rvReport))), (12, .val (num b.length)), (13, .val (num i))], memOf []⟩) (fun i => i ≤ b.length ∧ a.take i = b.take i) (fun i => b.length - i) 0 (Le.mk _ _ ?_ ?_) ?_ ?_
  · simp [upd, num]
  · simp
  · simp
  · rintro i ⟨hi, heq⟩
    simp [num]
    refine iteP_intro (fun h1b => ?_) (fun h1 => ?_)
    · have h1 : i < a.length := by omega
      obtain ⟨x, hx⟩ : ∃ x, a[i] = x := ⟨_, rfl⟩
      obtain ⟨y, hy⟩ : ∃ y, b[i] = y := ⟨_, rfl⟩
      have wi : IntKind.i64.wrap ((i : Int) + 1) = ((i + 1 : Nat) : Int) := by rw [wrap_i64 (by omega) (by omega)]; omega
      simp [h1, h1b, hx, hy, rvReport, tx, num, eqc_Report, onSome]
      by_cases hu : x = y
      · simp [hu]
        refine LoopNext.mk (i + 1) ⟨by omega, ?_⟩ (by omega) (Le.mk _ _ ?_ ?_)
        · rw [List.take_add_one, List.take_add_one, List.getElem?_eq_getElem h1, List.getElem?_eq_getElem h1b, heq, hx, hy, hu]
        · simp [num, wi]
        · simp
      · have h2 : a ≠ b := fun e => hu (by subst e; rw [← hx, ← hy])
        simp [hu, h2]
    · have e : i = b.length := by omega
      subst e
      rw [← hlen, List.take_length, hlen, List.take_length] at heq
      simp [heq]

theorem eqc_Entry (x y : LEntry) : eqCells [2, 2, 2] [.int .i64 x.kind, .int .i64 x.id, .int .i64 x.at_] [.int .i64 y.kind, .int .i64 y.id, .int .i64 y.at_] = some (decide (x = y)) := by
  have key : x = y ↔ (x.kind = y.kind ∧ x.id = y.id ∧ x.at_ = y.at_) := by
    constructor
    · rintro rfl; simp
    · rintro ⟨h0, h1, h2⟩
      obtain ⟨akind, aid, aat_⟩ := x
      obtain ⟨bkind, bid, bat_⟩ := y
      simp_all
  rw [show decide (x = y) = decide (x.kind = y.kind ∧ x.id = y.id ∧ x.at_ = y.at_) from decide_eq_decide.2 key]
  simp [eqCells, eqCell, bs_inj]
  rw [Bool.eq_iff_iff]; simp
theorem i_Equal_Entry (a b : List LEntry) (ha : a.length < 1099511627776) (hb : b.length < 1099511627776) : CallOK Tryz.prog 55 [.val (.list 3 (a.map rvEntry)), .val (.list 3 (b.map rvEntry))] (.ret (.val (.bool (decide (a = b)))) []) [] := by
  refine call_val mixed ok55 rfl (fun _ => rfl) ?_
  unfold ir55
  rw [evalC_intro]
  by_cases hlen : a.length = b.length
  rotate_left
  · have h1 : ¬ (a.length : Int) = b.length := by omega
    have h2 : a ≠ b := fun e => hlen (by rw [e])
    simp [initSt, avPVs, avPV, avBoxesL, avBoxes, h1, h2]
  simp [initSt, avPVs, avPV, avBoxesL, avBoxes, num, hlen]
  refine loop_EC (X := Nat) (fun i => ⟨envOf [(0, .val (.list 3 (a.map rvEntry))), (1, .val (.list 3 (b.map rvEntry))), (12, .val (num b.length)), (13, .val (num i))], memOf []⟩) (fun i => i ≤ b.length ∧ a.take i = b.take i) (fun i => b.length - i) 0 (Le.mk _ _ ?_ ?_) ?_ ?_
  · simp [upd, num]
  · simp
  · simp
  · rintro i ⟨hi, heq⟩
    simp [num]
    refine iteP_intro (fun h1b => ?_) (fun h1 => ?_)
    · have h1 : i < a.length := by omega
      obtain ⟨x, hx⟩ : ∃ x, a[i] = x := ⟨_, rfl⟩
      obtain ⟨y, hy⟩ : ∃ y, b[i] = y := ⟨_, rfl⟩
      have wi : IntKind.i64.wrap ((i : Int) + 1) = ((i + 1 : Nat) : Int) := by rw [wrap_i64 (by omega) (by omega)]; omega
      simp [h1, h1b, hx, hy, rvEntry, tx, num, eqc_Entry, onSome]
      by_cases hu : x = y
      · simp [hu]
        refine LoopNext.mk (i + 1) ⟨by omega, ?_⟩ (by omega) (Le.mk _ _ ?_ ?_)
        · rw [List.take_add_one, List.take_add_one, List.getElem?_eq_getElem h1, List.getElem?_eq_getElem h1b, heq, hx, hy, hu]
        · simp [num, wi]
        · simp
      · have h2 : a ≠ b := fun e => hu (by subst e; rw [← hx, ← hy])
        simp [hu, h2]
    · have e : i = b.length := by omega
      subst e
      rw [← hlen, List.take_length, hlen, List.take_length] at heq
      simp [heq]

theorem i_Equal_int (a b : List Int) (ha : a.length < 1099511627776) (hb : b.length < 1099511627776) : CallOK Tryz.prog 103 [.val (.list 1 (a.map num)), .val (.list 1 (b.map num))] (.ret (.val (.bool (decide (a = b)))) []) [] := by
  refine call_val mixed ok103 rfl (fun _ => rfl) ?_
  unfold ir103
  rw [evalC_intro]
  by_cases hlen : a.length = b.length
  rotate_left
  · have h1 : ¬ (a.length : Int) = b.length := by omega
    have h2 : a ≠ b := fun e => hlen (by rw [e])
    simp [initSt, avPVs, avPV, avBoxesL, avBoxes, h1, h2]
  simp [initSt, avPVs, avPV, avBoxesL, avBoxes, num, hlen]
  refine loop_EC (X := Nat) (fun i => ⟨envOf [(0, .val (.list 1 (a.map num))), (1, .val (.list 1 (b.map num))), (12, .val (num b.length)), (13, .val (num i))], memOf []⟩) (fun i => i ≤ b.length ∧ a.take i = b.take i) (fun i => b.length - i) 0 (Le.mk _ _ ?_ ?_) ?_ ?_
  · simp [upd, num]
  · simp
  · simp
  · rintro i ⟨hi, heq⟩
    simp [num]
    refine iteP_intro (fun h1b => ?_) (fun h1 => ?_)
    · have h1 : i < a.length := by omega
      have e1 : (a.map num)[i]?.getD .nilptr = num a[i] := by simp [List.getElem?_eq_getElem h1]
      have e2 : (b.map num)[i]?.getD .nilptr = num b[i] := by simp [List.getElem?_eq_getElem h1b]
      simp [num, h1, h1b, e1, e2, tx]
      by_cases hu : a[i] = b[i]
      · simp [hu]
        refine LoopNext.mk (i + 1) ⟨by omega, ?_⟩ (by omega) (Le.mk _ _ ?_ ?_)
        · rw [List.take_add_one, List.take_add_one, List.getElem?_eq_getElem h1, List.getElem?_eq_getElem h1b, heq, hu]
        · simp [num, tx]; exact wrap_i64 (by omega) (by omega)
        · simp
      · have h2 : a ≠ b := fun e => hu (by subst e; rfl)
        simp [hu, h2]
    · have e : i = b.length := by omega
      subst e
      rw [← hlen, List.take_length, hlen, List.take_length] at heq
      simp [heq]

theorem i_EqualFunc_Channel (a b : List LChannel) (g : Nat) (ha : a.length < 1099511627776) (hb : b.length < 1099511627776) (hg : fnB Tryz.prog g = true)
    (hp : ∀ x ∈ a, ∀ y ∈ b, CallOK Tryz.prog g [.val (rvChannel x), .val (rvChannel y)] (.ret (.val (.bool (decide (x = y)))) []) []) :
    CallOK Tryz.prog 52 [.val (.list 6 (a.map rvChannel)), .val (.list 6 (b.map rvChannel)), .fn g []] (.ret (.val (.bool (decide (a = b)))) []) [] := by
  refine call_val mixed ok52 rfl (fun _ => rfl) ?_
  unfold ir52
  rw [evalC_intro]
  by_cases hlen : a.length = b.length
  rotate_left
  · have h1 : ¬ (a.length : Int) = b.length := by omega
    have h2 : a ≠ b := fun e => hlen (by rw [e])
    simp [initSt, avPVs, avPV, avBoxesL, avBoxes, h1, h2]
  simp [initSt, avPVs, avPV, avBoxesL, avBoxes, num, hlen]
  refine loop_EC (X := Nat) (fun i => ⟨envOf [(0, .val (.list 6 (a.map rvChannel))), (1, .val (.list 6 (b.map rvChannel))), (2, .fn g []), (15, .val (.list 6 (a.map rvChannel))), (16, .val (num b.length)), (17, .val (num i))], memOf []⟩) (fun i => i ≤ b.length ∧ a.take i = b.take i) (fun i => b.length - i) 0 (Le.mk _ _ ?_ ?_) ?_ ?_
  · simp [upd, num]
  · simp
  · simp
  · rintro i ⟨hi, heq⟩
    simp [num]
    refine iteP_intro (fun h1b => ?_) (fun h1 => ?_)
    · have h1 : i < a.length := by omega
      obtain ⟨x, hx⟩ : ∃ x, a[i] = x := ⟨_, rfl⟩
      obtain ⟨y, hy⟩ : ∃ y, b[i] = y := ⟨_, rfl⟩
      have hc := hp x (hx ▸ List.getElem_mem h1) y (hy ▸ List.getElem_mem h1b)
      have wi : IntKind.i64.wrap ((i : Int) + 1) = ((i + 1 : Nat) : Int) := by rw [wrap_i64 (by omega) (by omega)]; omega
      simp [h1, h1b, hx, hy, rvGroup, rvQueue, rvChannel, tx, num, hg, PV.kill, MObj.kill]
      refine callS_val rfl rfl (.inl rfl) hc ?_
      by_cases hu : x = y
      · simp [hu]
        refine LoopNext.mk (i + 1) ⟨by omega, ?_⟩ (by omega) (Le.mk _ _ ?_ ?_)
        · rw [List.take_add_one, List.take_add_one, List.getElem?_eq_getElem h1, List.getElem?_eq_getElem h1b, heq, hx, hy, hu]
        · simp [num, wi, PV.kill]
        · simp
      · have h2 : a ≠ b := fun e => hu (by subst e; rw [← hx, ← hy])
        simp [hu, h2]
    · have e : i = b.length := by omega
      subst e
      rw [← hlen, List.take_length, hlen, List.take_length] at heq
      simp [heq]

theorem i_EqualFunc_Wire (a b : List LWire) (g : Nat) (ha : a.length < 1099511627776) (hb : b.length < 1099511627776) (hg : fnB Tryz.prog g = true)
    (hp : ∀ x ∈ a, ∀ y ∈ b, CallOK Tryz.prog g [.val (rvWire x), .val (rvWire y)] (.ret (.val (.bool (decide (x = y)))) []) []) :
    CallOK Tryz.prog 56 [.val (.list 7 (a.map rvWire)), .val (.list 7 (b.map rvWire)), .fn g []] (.ret (.val (.bool (decide (a = b)))) []) [] := by
  refine call_val mixed ok56 rfl (fun _ => rfl) ?_
  unfold ir56
  rw [evalC_intro]
  by_cases hlen : a.length = b.length
  rotate_left
  · have h1 : ¬ (a.length : Int) = b.length := by omega
    have h2 : a ≠ b := fun e => hlen (by rw [e])
    simp [initSt, avPVs, avPV, avBoxesL, avBoxes, h1, h2]
  simp [initSt, avPVs, avPV, avBoxesL, avBoxes, num, hlen]
  refine loop_EC (X := Nat) (fun i => ⟨envOf [(0, .val (.list 7 (a.map rvWire))), (1, .val (.list 7 (b.map rvWire))), (2, .fn g []), (15, .val (.list 7 (a.map rvWire))), (16, .val (num b.length)), (17, .val (num i))], memOf []⟩) (fun i => i ≤ b.length ∧ a.take i = b.take i) (fun i => b.length - i) 0 (Le.mk _ _ ?_ ?_) ?_ ?_
  · simp [upd, num]
  · simp
  · simp
  · rintro i ⟨hi, heq⟩
    simp [num]
    refine iteP_intro (fun h1b => ?_) (fun h1 => ?_)
    · have h1 : i < a.length := by omega
      obtain ⟨x, hx⟩ : ∃ x, a[i] = x := ⟨_, rfl⟩
      obtain ⟨y, hy⟩ : ∃ y, b[i] = y := ⟨_, rfl⟩
      have hc := hp x (hx ▸ List.getElem_mem h1) y (hy ▸ List.getElem_mem h1b)
      have wi : IntKind.i64.wrap ((i : Int) + 1) = ((i + 1 : Nat) : Int) := by rw [wrap_i64 (by omega) (by omega)]; omega
      simp [h1, h1b, hx, hy, rvWire, tx, num, hg, PV.kill, MObj.kill]
      refine callS_val rfl rfl (.inl rfl) hc ?_
      by_cases hu : x = y
      · simp [hu]
        refine LoopNext.mk (i + 1) ⟨by omega, ?_⟩ (by omega) (Le.mk _ _ ?_ ?_)
        · rw [List.take_add_one, List.take_add_one, List.getElem?_eq_getElem h1, List.getElem?_eq_getElem h1b, heq, hx, hy, hu]
        · simp [num, wi, PV.kill]
        · simp
      · have h2 : a ≠ b := fun e => hu (by subst e; rw [← hx, ← hy])
        simp [hu, h2]
    · have e : i = b.length := by omega
      subst e
      rw [← hlen, List.take_length, hlen, List.take_length] at heq
      simp [heq]

theorem i_EqualFunc_Rule (a b : List LRule) (g : Nat) (ha : a.length < 1099511627776) (hb : b.length < 1099511627776) (hg : fnB Tryz.prog g = true)
    (hp : ∀ x ∈ a, ∀ y ∈ b, CallOK Tryz.prog g [.val (rvRule x), .val (rvRule y)] (.ret (.val (.bool (decide (x = y)))) []) []) :
    CallOK Tryz.prog 101 [.val (.list 2 (a.map rvRule)), .val (.list 2 (b.map rvRule)), .fn g []] (.ret (.val (.bool (decide (a = b)))) []) [] := by
  refine call_val mixed ok101 rfl (fun _ => rfl) ?_
  unfold ir101
  rw [evalC_intro]
  by_cases hlen : a.length = b.length
  rotate_left
  · have h1 : ¬ (a.length : Int) = b.length := by omega
    have h2 : a ≠ b := fun e => hlen (by rw [e])
    simp [initSt, avPVs, avPV, avBoxesL, avBoxes, h1, h2]
  simp [initSt, avPVs, avPV, avBoxesL, avBoxes, num, hlen]
  refine loop_EC (X := Nat) (fun i => ⟨envOf [(0, .val (.list 2 (a.map rvRule))), (1, .val (.list 2 (b.map rvRule))), (2, .fn g []), (15, .val (.list 2 (a.map rvRule))), (16, .val (num b.length)), (17, .val (num i))], memOf []⟩) (fun i => i ≤ b.length ∧ a.take i = b.take i) (fun i => b.length - i) 0 (Le.mk _ _ ?_ ?_) ?_ ?_
  · simp [upd, num]
  · simp
  · simp
  · rintro i ⟨hi, heq⟩
    simp [num]
    refine iteP_intro (fun h1b => ?_) (fun h1 => ?_)
    · have h1 : i < a.length := by omega
      obtain ⟨x, hx⟩ : ∃ x, a[i] = x := ⟨_, rfl⟩
      obtain ⟨y, hy⟩ : ∃ y, b[i] = y := ⟨_, rfl⟩
      have hc := hp x (hx ▸ List.getElem_mem h1) y (hy ▸ List.getElem_mem h1b)
      have wi : IntKind.i64.wrap ((i : Int) + 1) = ((i + 1 : Nat) : Int) := by rw [wrap_i64 (by omega) (by omega)]; omega
      simp [h1, h1b, hx, hy, rvRule, tx, num, hg, PV.kill, MObj.kill]
      refine callS_val rfl rfl (.inl rfl) hc ?_
      by_cases hu : x = y
      · simp [hu]
        refine LoopNext.mk (i + 1) ⟨by omega, ?_⟩ (by omega) (Le.mk _ _ ?_ ?_)
        · rw [List.take_add_one, List.take_add_one, List.getElem?_eq_getElem h1, List.getElem?_eq_getElem h1b, heq, hx, hy, hu]
        · simp [num, wi, PV.kill]
        · simp
      · have h2 : a ≠ b := fun e => hu (by subst e; rw [← hx, ← hy])
        simp [hu, h2]
    · have e : i = b.length := by omega
      subst e
      rw [← hlen, List.take_length, hlen, List.take_length] at heq
      simp [heq]

end Go.Proofs
end

/- When two pipelines are the same. -/
section
set_option maxRecDepth 100000
set_option linter.unusedVariables false
set_option linter.unusedSectionVars false
set_option linter.unusedSimpArgs false
namespace Go.Proofs
open Go.PW Go.KP
attribute [local simp] RV.cells RV.one PV.cells PV.solid PV.one vals? allVal mkAgg setAt RV.ofCells elems PV.killL
variable [GH]

theorem eqc_Target (x y : LTarget) : eqCells [0, 2, 2] [.str (bs x.url), .int .i64 x.prio, .int .i64 x.weight] [.str (bs y.url), .int .i64 y.prio, .int .i64 y.weight] = some (decide (x = y)) := by
  have key : x = y ↔ (x.url = y.url ∧ x.prio = y.prio ∧ x.weight = y.weight) := by
    constructor
    · rintro rfl; simp
    · rintro ⟨h0, h1, h2⟩
      cases x; cases y
      simp_all
  rw [show decide (x = y) = decide (x.url = y.url ∧ x.prio = y.prio ∧ x.weight = y.weight) from decide_eq_decide.2 key]
  simp [eqCells, eqCell, bs_inj]
  rw [Bool.eq_iff_iff]; simp

theorem take_next {α : Type} {a b : List α} {i : Nat} (h1 : i < a.length) (h2 : i < b.length) (h : a.take i = b.take i) (he : a[i] = b[i]) : a.take (i + 1) = b.take (i + 1) := by
  rw [List.take_add_one, List.take_add_one, List.getElem?_eq_getElem h1, List.getElem?_eq_getElem h2, h, he]

theorem c_l00Same (a b : List Int) (ha : a.length < 1099511627776) (hb : b.length < 1099511627776) : CallOK Tryz.prog 146 [.val (.list 1 (a.map num)), .val (.list 1 (b.map num))] (.ret (.val (.bool (decide (a = b)))) []) [] := by
  refine call_val mixed ok146 rfl (fun _ => rfl) ?_
  unfold ir146
  rw [evalC_intro]
  by_cases hlen : a.length = b.length
  rotate_left
  · have h1 : ¬ (a.length : Int) = b.length := by omega
    have h2 : a ≠ b := fun e => hlen (by rw [e])
    simp [initSt, avPVs, avPV, avBoxesL, avBoxes, h1, h2]
  simp [initSt, avPVs, avPV, avBoxesL, avBoxes, num, hlen]
  refine loop_EC (X := Nat) (fun i => ⟨envOf [(0, .val (.list 1 (a.map num))), (1, .val (.list 1 (b.map num))), (5, .val (num i))], memOf []⟩) (fun i => i ≤ a.length ∧ a.take i = b.take i) (fun i => a.length - i) 0 (Le.mk _ _ ?_ ?_) ?_ ?_
  · simp [upd, num]
  · simp
  · simp
  · rintro i ⟨hi, heq⟩
    simp [num]
    refine iteP_intro (fun h1 => ?_) (fun h1 => ?_)
    · have h1b : i < b.length := by omega
      have wi : IntKind.i64.wrap ((i : Int) + 1) = ((i + 1 : Nat) : Int) := by rw [wrap_i64 (by omega) (by omega)]; omega
      simp [num, h1, h1b]
      by_cases hu : a[i] = b[i]
      · simp [hu]
        refine LoopNext.mk (i + 1) ⟨by omega, take_next h1 h1b heq hu⟩ (by omega) (Le.mk _ _ ?_ ?_)
        · simp [num, wi]
        · simp
      · have h2 : a ≠ b := fun e => hu (by subst e; rfl)
        simp [hu, h2]
    · have e : i = a.length := by omega
      subst e
      rw [List.take_length, hlen, List.take_length] at heq
      simp [heq]

def gBox (g : LGroup) : MObj := .box [.val (tx g.name), .val (num g.age), .val (.list 3 (g.targets.map rvTarget))]
def qBox (q : LQueue) : MObj := .box [.val (.list 4 (q.items.map rvReport)), .val (.list 1 (q.recent.map tx))]

theorem c_l03Same (x y : LGroup) (hx : x.targets.length < 1099511627776) (hy : y.targets.length < 1099511627776) : CallOK Tryz.prog 144 [.val (rvGroup x), .val (rvGroup y)] (.ret (.val (.bool (decide (x = y)))) []) [] := by
  have key : x = y ↔ (x.name = y.name ∧ x.age = y.age ∧ x.targets = y.targets) := by
    constructor
    · rintro rfl; simp
    · rintro ⟨h0, h1, h2⟩
      cases x; cases y
      simp_all
  obtain ⟨r, hr⟩ : ∃ r, decide (x = y) = r := ⟨_, rfl⟩
  rw [hr]
  refine call_val mixed ok144 rfl (fun _ => rfl) ?_
  unfold ir144
  rw [evalC_intro]
  simp [initSt, avPVs, avPV, avBoxesL, avBoxes, rvGroup, tx, num, bs_inj]
  refine iteP_intro (fun h1 => ?_) (fun h1 => ?_)
  rotate_left
  · obtain rfl : r = false := by rw [← hr]; simp [key, h1]
    simp [h1]
  simp [h1, tx, num, PV.kill, MObj.kill]
  by_cases h2 : x.age = y.age
  rotate_left
  · obtain rfl : r = false := by rw [← hr]; simp [key, h2]
    simp [h2]
  simp [h2, tx, num, PV.kill, MObj.kill]
  by_cases h3 : x.targets.length = y.targets.length
  rotate_left
  · obtain rfl : r = false := by
      rw [← hr]; simp only [decide_eq_false_iff_not]; intro e; exact h3 (by rw [e])
    have h3' : ¬ (x.targets.length : Int) = y.targets.length := by omega
    simp [h3']
  have h3' : (x.targets.length : Int) = y.targets.length := by omega
  simp [h3', tx, num, PV.kill, MObj.kill]
  refine loop_EC (X := Nat) (fun i => ⟨envOf [(2, .ptr 2 0), (3, .ptr 3 0), (5, .val (num i))], memOf [(2, gBox x), (3, gBox y)]⟩) (fun i => i ≤ x.targets.length ∧ x.targets.take i = y.targets.take i) (fun i => x.targets.length - i) 0 (Le.mk _ _ ?_ ?_) ?_ ?_
  · simp [upd, num, PV.kill]
  · simp [gBox, tx, num, h1, h2]
  · simp
  · rintro i ⟨hi, heq⟩
    simp [num, gBox]
    refine iteP_intro (fun h4 => ?_) (fun h4 => ?_)
    · have h4b : i < y.targets.length := by omega
      have wi : IntKind.i64.wrap ((i : Int) + 1) = ((i + 1 : Nat) : Int) := by rw [wrap_i64 (by omega) (by omega)]; omega
      simp [num, h4, h4b, rvTarget, tx, eqc_Target, onSome]
      by_cases hu : x.targets[i] = y.targets[i]
      · simp [hu]
        refine LoopNext.mk (i + 1) ⟨by omega, take_next h4 h4b heq hu⟩ (by omega) (Le.mk _ _ ?_ ?_)
        · simp [num, wi]
        · simp [gBox, tx, num]
      · obtain rfl : r = false := by
          rw [← hr]; simp only [decide_eq_false_iff_not]; rintro rfl; exact hu rfl
        simp [hu]
    · have e : i = x.targets.length := by omega
      subst e
      rw [List.take_length, h3, List.take_length] at heq
      obtain rfl : r = true := by rw [← hr]; simp [key, h1, h2, heq]
      simp

theorem c_l06Same (x y : LQueue) (hb : bdQueue 1048576 x) (hb' : bdQueue 1048576 y) : CallOK Tryz.prog 145 [.val (rvQueue x), .val (rvQueue y)] (.ret (.val (.bool (decide (x = y)))) []) [] := by
  have key : x = y ↔ (x.items = y.items ∧ x.recent = y.recent) := by
    constructor
    · rintro rfl; simp
    · rintro ⟨h0, h1⟩
      cases x; cases y
      simp_all
  have l1 : x.items.length ≤ 1048576 := hb.1.1
  have l2 : y.items.length ≤ 1048576 := hb'.1.1
  have l3 : x.recent.length ≤ 1048576 := hb.2.1
  have l4 : y.recent.length ≤ 1048576 := hb'.2.1
  have hT := c_l00SameTexts x.recent y.recent (by omega) (by omega)
  obtain ⟨r, hr⟩ : ∃ r, decide (x = y) = r := ⟨_, rfl⟩
  rw [hr]
  refine call_val mixed ok145 rfl (fun _ => rfl) ?_
  unfold ir145
  rw [evalC_intro]
  simp [initSt, avPVs, avPV, avBoxesL, avBoxes, rvQueue, tx, num, bs_inj]
  by_cases h3 : x.items.length = y.items.length
  rotate_left
  · obtain rfl : r = false := by
      rw [← hr]; simp only [decide_eq_false_iff_not]; intro e; exact h3 (by rw [e])
    have h3' : ¬ (x.items.length : Int) = y.items.length := by omega
    simp [h3']
  have h3' : (x.items.length : Int) = y.items.length := by omega
  simp [h3', tx, num, PV.kill, MObj.kill]
  refine callS_val rfl rfl (.inl rfl) hT ?_
  by_cases h1 : x.recent = y.recent
  rotate_left
  · obtain rfl : r = false := by rw [← hr]; simp [key, h1]
    simp [h1]
  simp [h1, tx, num, PV.kill, MObj.kill]
  refine loop_EC (X := Nat) (fun i => ⟨envOf [(2, .ptr 2 0), (3, .ptr 3 0), (5, .val (num i))], memOf [(2, qBox x), (3, qBox y)]⟩) (fun i => i ≤ x.items.length ∧ x.items.take i = y.items.take i) (fun i => x.items.length - i) 0 (Le.mk _ _ ?_ ?_) ?_ ?_
  · simp [upd, num, PV.kill]
  · simp [qBox, tx, num, h1]
  · simp
  · rintro i ⟨hi, heq⟩
    simp [num, qBox]
    refine iteP_intro (fun h4 => ?_) (fun h4 => ?_)
    · have h4b : i < y.items.length := by omega
      have wi : IntKind.i64.wrap ((i : Int) + 1) = ((i + 1 : Nat) : Int) := by rw [wrap_i64 (by omega) (by omega)]; omega
      simp [num, h4, h4b, rvReport, tx, eqc_Report, onSome]
      by_cases hu : x.items[i] = y.items[i]
      · simp [hu]
        refine LoopNext.mk (i + 1) ⟨by omega, take_next h4 h4b heq hu⟩ (by omega) (Le.mk _ _ ?_ ?_)
        · simp [num, wi]
        · simp [qBox, tx, num]
      · obtain rfl : r = false := by
          rw [← hr]; simp only [decide_eq_false_iff_not]; rintro rfl; exact hu rfl
        simp [hu]
    · have e : i = x.items.length := by omega
      subst e
      rw [List.take_length, h3, List.take_length] at heq
      obtain rfl : r = true := by rw [← hr]; simp [key, h1, heq]
      simp

theorem c_l08SameChannel (x y : LChannel) (hb : bdChannel 1048576 x) (hb' : bdChannel 1048576 y) : CallOK Tryz.prog 95 [.val (rvChannel x), .val (rvChannel y)] (.ret (.val (.bool (decide (x = y)))) []) [] := by
  have key : x = y ↔ (x.group = y.group ∧ x.peers = y.peers ∧ x.queue = y.queue) := by
    constructor
    · rintro rfl; simp
    · rintro ⟨h0, h1, h2⟩
      cases x; cases y
      simp_all
  have l1 : x.group.targets.length ≤ 1048576 := hb.1.2.1
  have l2 : y.group.targets.length ≤ 1048576 := hb'.1.2.1
  have l3 : x.peers.length ≤ 1048576 := hb.2.1.1
  have l4 : y.peers.length ≤ 1048576 := hb'.2.1.1
  have hG := c_l03Same x.group y.group (by omega) (by omega)
  have hQ := c_l06Same x.queue y.queue hb.2.2 hb'.2.2
  obtain ⟨r, hr⟩ : ∃ r, decide (x = y) = r := ⟨_, rfl⟩
  rw [hr]
  refine call_val mixed ok95 rfl (fun _ => rfl) ?_
  unfold ir95
  rw [evalC_intro]
  simp [initSt, avPVs, avPV, avBoxesL, avBoxes, rvChannel, tx, num]
  refine callS_val rfl rfl (.inl rfl) hG ?_
  by_cases h1 : x.group = y.group
  rotate_left
  · obtain rfl : r = false := by rw [← hr]; simp [key, h1]
    simp [h1]
  simp [h1, tx, num, PV.kill, MObj.kill]
  by_cases h3 : x.peers.length = y.peers.length
  rotate_left
  · obtain rfl : r = false := by
      rw [← hr]; simp only [decide_eq_false_iff_not]; intro e; exact h3 (by rw [e])
    have h3' : ¬ (x.peers.length : Int) = y.peers.length := by omega
    simp [h3']
  have h3' : (x.peers.length : Int) = y.peers.length := by omega
  simp [h3', tx, num, PV.kill, MObj.kill]
  refine callS_val rfl rfl (.inl rfl) hQ ?_
  by_cases h2 : x.queue = y.queue
  rotate_left
  · obtain rfl : r = false := by rw [← hr]; simp [key, h2]
    simp [h2]
  simp [h2, tx, num, PV.kill, MObj.kill]
  refine loop_EC (X := Nat) (fun i => ⟨envOf [(2, .ptr 2 0), (3, .ptr 3 0), (5, .val (num i))], memOf [(2, cBox x), (3, cBox y)]⟩) (fun i => i ≤ x.peers.length ∧ x.peers.take i = y.peers.take i) (fun i => x.peers.length - i) 0 (Le.mk _ _ ?_ ?_) ?_ ?_
  · simp [upd, num, PV.kill]
  · simp [cBox, tx, num, h1, h2]
  · simp
  · rintro i ⟨hi, heq⟩
    simp [num, cBox]
    refine iteP_intro (fun h4 => ?_) (fun h4 => ?_)
    · have h4b : i < y.peers.length := by omega
      have wi : IntKind.i64.wrap ((i : Int) + 1) = ((i + 1 : Nat) : Int) := by rw [wrap_i64 (by omega) (by omega)]; omega
      simp [num, h4, h4b, rvPeer, rvTarget, tx, eqc_Peer, onSome]
      by_cases hu : x.peers[i] = y.peers[i]
      · simp [hu]
        refine LoopNext.mk (i + 1) ⟨by omega, take_next h4 h4b heq hu⟩ (by omega) (Le.mk _ _ ?_ ?_)
        · simp [num, wi]
        · simp [cBox, tx, num]
      · obtain rfl : r = false := by
          rw [← hr]; simp only [decide_eq_false_iff_not]; rintro rfl; exact hu rfl
        simp [hu]
    · have e : i = x.peers.length := by omega
      subst e
      rw [List.take_length, h3, List.take_length] at heq
      obtain rfl : r = true := by rw [← hr]; simp [key, h1, h2, heq]
      simp

theorem c_l08SameWire (x y : LWire) (hx : x.ids.length < 1099511627776) (hy : y.ids.length < 1099511627776) : CallOK Tryz.prog 96 [.val (rvWire x), .val (rvWire y)] (.ret (.val (.bool (decide (x = y)))) []) [] := by
  have key : x = y ↔ (x.at_ = y.at_ ∧ x.status = y.status ∧ x.group = y.group ∧ x.url = y.url ∧ x.ids = y.ids ∧ x.body = y.body ∧ x.lost = y.lost) := by
    constructor
    · rintro rfl; simp
    · rintro ⟨h0, h1, h2, h3, h4, h5, h6⟩
      cases x; cases y
      simp_all
  have hI := c_l00Same x.ids y.ids hx hy
  obtain ⟨r, hr⟩ : ∃ r, decide (x = y) = r := ⟨_, rfl⟩
  rw [hr]
  refine call_val mixed ok96 rfl (fun _ => rfl) ?_
  unfold ir96
  rw [evalC_intro]
  simp [initSt, avPVs, avPV, avBoxesL, avBoxes, rvWire, tx, num, bs_inj]
  by_cases h0 : x.at_ = y.at_
  rotate_left
  · obtain rfl : r = false := by rw [← hr]; simp [key, h0]
    simp [h0]
  simp [h0, tx, num, bs_inj, PV.kill, MObj.kill]
  by_cases h1 : x.status = y.status
  rotate_left
  · obtain rfl : r = false := by rw [← hr]; simp [key, h1]
    simp [h1]
  simp [h1, tx, num, bs_inj, PV.kill, MObj.kill]
  by_cases h2 : x.group = y.group
  rotate_left
  · obtain rfl : r = false := by rw [← hr]; simp [key, h2]
    simp [h2]
  simp [h2, tx, num, bs_inj, PV.kill, MObj.kill]
  by_cases h3 : x.url = y.url
  rotate_left
  · obtain rfl : r = false := by rw [← hr]; simp [key, h3]
    simp [h3]
  simp [h3, tx, num, bs_inj, PV.kill, MObj.kill]
  refine callS_val rfl rfl (.inl rfl) hI ?_
  by_cases h4 : x.ids = y.ids
  rotate_left
  · obtain rfl : r = false := by rw [← hr]; simp [key, h4]
    simp [h4]
  simp [h4, tx, num, bs_inj, PV.kill, MObj.kill]
  by_cases h5 : x.body = y.body
  rotate_left
  · obtain rfl : r = false := by rw [← hr]; simp [key, h5]
    simp [h5]
  obtain rfl : r = (x.lost == y.lost) := by rw [← hr, Bool.eq_iff_iff]; simp [key, h0, h1, h2, h3, h4, h5]
  simp [h5, tx, num, PV.kill, MObj.kill]

theorem i_sameWire (x y : LWire) (hx : x.ids.length < 1099511627776) (hy : y.ids.length < 1099511627776) : CallOK Tryz.prog 57 [.val (rvWire x), .val (rvWire y)] (.ret (.val (.bool (decide (x = y)))) []) [] := by
  have key : x = y ↔ (x.at_ = y.at_ ∧ x.status = y.status ∧ x.group = y.group ∧ x.url = y.url ∧ x.ids = y.ids ∧ x.body = y.body ∧ x.lost = y.lost) := by
    constructor
    · rintro rfl; simp
    · rintro ⟨h0, h1, h2, h3, h4, h5, h6⟩
      cases x; cases y
      simp_all
  have hI := i_Equal_int x.ids y.ids hx hy
  obtain ⟨r, hr⟩ : ∃ r, decide (x = y) = r := ⟨_, rfl⟩
  rw [hr]
  refine call_val mixed ok57 rfl (fun _ => rfl) ?_
  unfold ir57
  rw [evalC_intro]
  simp [initSt, avPVs, avPV, avBoxesL, avBoxes, rvWire, tx, num, bs_inj]
  by_cases h0 : x.at_ = y.at_
  rotate_left
  · obtain rfl : r = false := by rw [← hr]; simp [key, h0]
    simp [h0]
  simp [h0, tx, num, bs_inj, PV.kill, MObj.kill]
  by_cases h1 : x.status = y.status
  rotate_left
  · obtain rfl : r = false := by rw [← hr]; simp [key, h1]
    simp [h1]
  simp [h1, tx, num, bs_inj, PV.kill, MObj.kill]
  by_cases h2 : x.group = y.group
  rotate_left
  · obtain rfl : r = false := by rw [← hr]; simp [key, h2]
    simp [h2]
  simp [h2, tx, num, bs_inj, PV.kill, MObj.kill]
  by_cases h3 : x.url = y.url
  rotate_left
  · obtain rfl : r = false := by rw [← hr]; simp [key, h3]
    simp [h3]
  simp [h3, tx, num, bs_inj, PV.kill, MObj.kill]
  refine callS_val rfl rfl (.inl rfl) hI ?_
  by_cases h4 : x.ids = y.ids
  rotate_left
  · obtain rfl : r = false := by rw [← hr]; simp [key, h4]
    simp [h4]
  simp [h4, tx, num, bs_inj, PV.kill, MObj.kill]
  by_cases h5 : x.body = y.body
  rotate_left
  · obtain rfl : r = false := by rw [← hr]; simp [key, h5]
    simp [h5]
  obtain rfl : r = (x.lost == y.lost) := by rw [← hr, Bool.eq_iff_iff]; simp [key, h0, h1, h2, h3, h4, h5]
  simp [h5, tx, num, PV.kill, MObj.kill]

theorem i_sameGroup (x y : LGroup) (hx : x.targets.length < 1099511627776) (hy : y.targets.length < 1099511627776) : CallOK Tryz.prog 97 [.val (rvGroup x), .val (rvGroup y)] (.ret (.val (.bool (decide (x = y)))) []) [] := by
  have key : x = y ↔ (x.name = y.name ∧ x.age = y.age ∧ x.targets = y.targets) := by
    constructor
    · rintro rfl; simp
    · rintro ⟨h0, h1, h2⟩
      cases x; cases y
      simp_all
  have hT := i_Equal_Target x.targets y.targets hx hy
  obtain ⟨r, hr⟩ : ∃ r, decide (x = y) = r := ⟨_, rfl⟩
  rw [hr]
  refine call_val mixed ok97 rfl (fun _ => rfl) ?_
  unfold ir97
  rw [evalC_intro]
  simp [initSt, avPVs, avPV, avBoxesL, avBoxes, rvGroup, tx, num, bs_inj]
  by_cases h0 : x.name = y.name
  rotate_left
  · obtain rfl : r = false := by rw [← hr]; simp [key, h0]
    simp [h0]
  simp [h0, tx, num, PV.kill, MObj.kill]
  by_cases h1 : x.age = y.age
  rotate_left
  · obtain rfl : r = false := by rw [← hr]; simp [key, h1]
    simp [h1]
  simp [h1, tx, num, PV.kill, MObj.kill]
  refine callS_val rfl rfl (.inl rfl) hT ?_
  obtain rfl : r = decide (x.targets = y.targets) := by rw [← hr]; simp [key, h0, h1]
  simp

theorem i_sameQueue (x y : LQueue) (hb : bdQueue 1048576 x) (hb' : bdQueue 1048576 y) : CallOK Tryz.prog 99 [.val (rvQueue x), .val (rvQueue y)] (.ret (.val (.bool (decide (x = y)))) []) [] := by
  have key : x = y ↔ (x.items = y.items ∧ x.recent = y.recent) := by
    constructor
    · rintro rfl; simp
    · rintro ⟨h0, h1⟩
      cases x; cases y
      simp_all
  have l1 : x.items.length ≤ 1048576 := hb.1.1
  have l2 : y.items.length ≤ 1048576 := hb'.1.1
  have l3 : x.recent.length ≤ 1048576 := hb.2.1
  have l4 : y.recent.length ≤ 1048576 := hb'.2.1
  have hR := i_Equal_Report x.items y.items (by omega) (by omega)
  have hT := i_Equal_str x.recent y.recent (by omega) (by omega)
  obtain ⟨r, hr⟩ : ∃ r, decide (x = y) = r := ⟨_, rfl⟩
  rw [hr]
  refine call_val mixed ok99 rfl (fun _ => rfl) ?_
  unfold ir99
  rw [evalC_intro]
  simp [initSt, avPVs, avPV, avBoxesL, avBoxes, rvQueue, tx, num, bs_inj]
  refine callS_val rfl rfl (.inl rfl) hR ?_
  by_cases h0 : x.items = y.items
  rotate_left
  · obtain rfl : r = false := by rw [← hr]; simp [key, h0]
    simp [h0]
  simp [h0, tx, num, PV.kill, MObj.kill]
  refine callS_val rfl rfl (.inl rfl) hT ?_
  obtain rfl : r = decide (x.recent = y.recent) := by rw [← hr]; simp [key, h0]
  simp

theorem i_sameChannel (x y : LChannel) (hb : bdChannel 1048576 x) (hb' : bdChannel 1048576 y) : CallOK Tryz.prog 53 [.val (rvChannel x), .val (rvChannel y)] (.ret (.val (.bool (decide (x = y)))) []) [] := by
  have key : x = y ↔ (x.group = y.group ∧ x.peers = y.peers ∧ x.queue = y.queue) := by
    constructor
    · rintro rfl; simp
    · rintro ⟨h0, h1, h2⟩
      cases x; cases y
      simp_all
  have l1 : x.group.targets.length ≤ 1048576 := hb.1.2.1
  have l2 : y.group.targets.length ≤ 1048576 := hb'.1.2.1
  have l3 : x.peers.length ≤ 1048576 := hb.2.1.1
  have l4 : y.peers.length ≤ 1048576 := hb'.2.1.1
  have hG := i_sameGroup x.group y.group (by omega) (by omega)
  have hP := i_Equal_Peer x.peers y.peers (by omega) (by omega)
  have hQ := i_sameQueue x.queue y.queue hb.2.2 hb'.2.2
  obtain ⟨r, hr⟩ : ∃ r, decide (x = y) = r := ⟨_, rfl⟩
  rw [hr]
  refine call_val mixed ok53 rfl (fun _ => rfl) ?_
  unfold ir53
  rw [evalC_intro]
  simp [initSt, avPVs, avPV, avBoxesL, avBoxes, rvChannel, tx, num, bs_inj]
  refine callS_val rfl rfl (.inl rfl) hG ?_
  by_cases h0 : x.group = y.group
  rotate_left
  · obtain rfl : r = false := by rw [← hr]; simp [key, h0]
    simp [h0]
  simp [h0, tx, num, PV.kill, MObj.kill]
  refine callS_val rfl rfl (.inl rfl) hP ?_
  by_cases h1 : x.peers = y.peers
  rotate_left
  · obtain rfl : r = false := by rw [← hr]; simp [key, h1]
    simp [h1]
  simp [h1, tx, num, PV.kill, MObj.kill]
  refine callS_val rfl rfl (.inl rfl) hQ ?_
  obtain rfl : r = decide (x.queue = y.queue) := by rw [← hr]; simp [key, h0, h1]
  simp

theorem i_samePolicy1 (x y : LRule) (hx : x.words.length < 1099511627776) (hy : y.words.length < 1099511627776) : CallOK Tryz.prog 102 [.val (rvRule x), .val (rvRule y)] (.ret (.val (.bool (decide (x = y)))) []) [] := by
  have key : x = y ↔ (x.name = y.name ∧ x.words = y.words) := by
    constructor
    · rintro rfl; simp
    · rintro ⟨h0, h1⟩
      cases x; cases y
      simp_all
  have hT := i_Equal_str x.words y.words hx hy
  obtain ⟨r, hr⟩ : ∃ r, decide (x = y) = r := ⟨_, rfl⟩
  rw [hr]
  refine call_val mixed ok102 rfl (fun _ => rfl) ?_
  unfold ir102
  rw [evalC_intro]
  simp [initSt, avPVs, avPV, avBoxesL, avBoxes, rvRule, tx, num, bs_inj]
  by_cases h0 : x.name = y.name
  rotate_left
  · obtain rfl : r = false := by rw [← hr]; simp [key, h0]
    simp [h0]
  simp [h0, tx, num, PV.kill, MObj.kill]
  refine callS_val rfl rfl (.inl rfl) hT ?_
  obtain rfl : r = decide (x.words = y.words) := by rw [← hr]; simp [key, h0]
  simp

theorem i_samePolicy (x y : LPolicy) (hb : bdPolicy 1048576 x) (hb' : bdPolicy 1048576 y) : CallOK Tryz.prog 54 [.val (rvPolicy x), .val (rvPolicy y)] (.ret (.val (.bool (decide (x = y)))) []) [] := by
  have key : x = y ↔ (x.reportTo = y.reportTo ∧ x.uris = y.uris ∧ x.rules = y.rules) := by
    constructor
    · rintro rfl; simp
    · rintro ⟨h0, h1, h2⟩
      cases x; cases y
      simp_all
  have l1 : x.uris.length ≤ 1048576 := hb.2.1.1
  have l2 : y.uris.length ≤ 1048576 := hb'.2.1.1
  have l3 : x.rules.length ≤ 1048576 := hb.2.2.1
  have l4 : y.rules.length ≤ 1048576 := hb'.2.2.1
  have hT := i_Equal_str x.uris y.uris (by omega) (by omega)
  have hR := i_EqualFunc_Rule x.rules y.rules 102 (by omega) (by omega) (by kernel_rfl) (fun a ha b hb2 => i_samePolicy1 a b (by have := (hb.2.2.2 a ha).2.1; omega) (by have := (hb'.2.2.2 b hb2).2.1; omega))
  obtain ⟨r, hr⟩ : ∃ r, decide (x = y) = r := ⟨_, rfl⟩
  rw [hr]
  refine call_val mixed ok54 rfl (fun _ => rfl) ?_
  unfold ir54
  rw [evalC_intro]
  simp [initSt, avPVs, avPV, avBoxesL, avBoxes, rvPolicy, tx, num, bs_inj]
  by_cases h0 : x.reportTo = y.reportTo
  rotate_left
  · obtain rfl : r = false := by rw [← hr]; simp [key, h0]
    simp [h0]
  simp [h0, tx, num, PV.kill, MObj.kill]
  refine callS_val rfl rfl (.inl rfl) hT ?_
  by_cases h1 : x.uris = y.uris
  rotate_left
  · obtain rfl : r = false := by rw [← hr]; simp [key, h1]
    simp [h1]
  simp [h1, tx, num, PV.kill, MObj.kill]
  refine callS_val rfl rfl (.inl rfl) hR ?_
  obtain rfl : r = decide (x.rules = y.rules) := by rw [← hr]; simp [key, h0, h1]
  simp
end Go.Proofs
end

/- The text of a policy, and the law of SamePipe. -/
section
set_option maxRecDepth 100000
set_option linter.unusedVariables false
set_option linter.unusedSectionVars false
set_option linter.unusedSimpArgs false
namespace Go.Proofs
open Go.PW Go.KP
attribute [local simp] RV.cells RV.one PV.cells PV.solid PV.one vals? allVal mkAgg setAt RV.ofCells elems PV.killL
variable [GH]

def polBox (p : LPolicy) : MObj := .box [.val (tx p.reportTo), .val (.list 1 (p.uris.map tx)), .val (.list 2 (p.rules.map rvRule))]
theorem pol_s17 {K : Kx (PExit → St → Prop)} (p : LPolicy) (i : Nat) (q : Tx) (h1 : i < p.rules.length) (hq : q.length ≤ 75497562) (hok : lruleOK p.rules[i] = true) (hw : ∀ w ∈ p.rules[i].words, w.length ≤ 1048576)
    (hn : ∀ st' : St, st'.env 1 = .ptr 1 0 → st'.env 3 = .val (tx (q ++ lruleText p.rules[i])) → st'.env 4 = .val (num i) → st'.mem 1 = polBox p → K.k .normal st')
    (st : St) (e1 : st.env 1 = .ptr 1 0) (e3 : st.env 3 = .val (tx q)) (e4 : st.env 4 = .val (num i)) (m1 : st.mem 1 = polBox p) : EC Tryz.prog ir94_s17 st (K := K) := by
  obtain ⟨r, hr⟩ : ∃ r, p.rules[i] = r := ⟨_, rfl⟩
  rw [hr] at hok hw hn
  obtain ⟨hrl, hnl, hwl⟩ := ruleText_len hok hw
  unfold ir94_s17
  simp [e1, e3, e4, m1, polBox, num, tx, h1, hr, rvRule, bs_size, bs_append]
  refine ⟨by omega, ?_⟩
  have e32 : (⟨#[32]⟩ : ByteArray) = bs [32] := rfl
  refine loop_EC (X := Nat) (fun k => ⟨envOf [(1, .ptr 1 0), (3, .val (tx (q ++ r.name ++ lwtail r.words k))), (4, .val (num i)), (5, .val (num k))], memOf [(1, polBox p)]⟩) (fun k => k ≤ r.words.length) (fun k => r.words.length - k) 0 (Le.mk _ _ ?_ ?_) ?_ ?_
  · simp [upd, num, tx, e1, e4, lwtail_zero]
  · simp [m1]
  · simp
  · intro k hk
    simp [num, tx, polBox, h1, hr, rvRule]
    have hfl := lwtail_len hw hwl k
    refine iteP_intro (fun h2 => ?_) (fun h2 => ?_)
    · have hwk := hw _ (List.getElem_mem h2)
      have hst := lwtail_succ r.words k h2
      have wi : IntKind.i64.wrap ((k : Int) + 1) = ((k + 1 : Nat) : Int) := by rw [wrap_i64 (by omega) (by omega)]; omega
      simp [num, tx, h1, h2, hr, rvRule, bs_size, bs_append, e32]
      refine ⟨by omega, by omega, ?_⟩
      refine LoopNext.mk (k + 1) h2 (by omega) (Le.mk _ _ ?_ ?_)
      · simp [num, wi, hst, tx]
      · simp [polBox, tx]
    · have e : k = r.words.length := by omega
      subst e
      simp
      refine hn _ ?_ ?_ ?_ ?_
      · simp
      · simp [← lwtail_all, tx]
      · simp [num]
      · simp [polBox, tx]

theorem c_l04Text (p : LPolicy) (hok : lpolicyOK p = true) (hb : bdPolicy 1048576 p) : CallOK Tryz.prog 94 [.val (rvPolicy p)] (.ret (.val (tx (lpolText p.rules))) []) [] := by
  have hw : ∀ r ∈ p.rules, ∀ w ∈ r.words, w.length ≤ 1048576 := fun r hr w hw => (hb.2.2.2 r hr).2.2 w hw
  have h8 := polOK_len hok
  refine call_val mixed ok94 rfl (fun _ => rfl) ?_
  unfold ir94
  rw [evalC_intro]
  simp [initSt, avPVs, avPV, avBoxesL, avBoxes, rvPolicy, tx, num]
  refine loop_EC (X := Nat) (fun i => ⟨envOf [(1, .ptr 1 0), (3, .val (tx (lpolText (p.rules.take i)))), (4, .val (num i))], memOf [(1, polBox p)]⟩) (fun i => i ≤ p.rules.length) (fun i => p.rules.length - i) 0 (Le.mk _ _ ?_ ?_) ?_ ?_
  · simp [upd, num, tx, PV.kill, lpolText, ljoin, bs_mk]
  · simp [tx, num, polBox]
  · simp
  · intro i hi
    simp [num, tx, polBox]
    have hl := polText_len hok hw i
    refine iteP_intro (fun h1 => ?_) (fun h1 => ?_)
    · have hrm : p.rules[i] ∈ p.rules := List.getElem_mem h1
      have hst : lpolText (p.rules.take (i + 1)) = lpolText (p.rules.take i) ++ ((if i = 0 then [] else [59, 32]) ++ lruleText p.rules[i]) := by
        have := ljoin_take [59, 32] (p.rules.map lruleText) i (by simpa using h1)
        rw [← List.map_take, ← List.map_take] at this
        simpa [lpolText] using this
      have wi : IntKind.i64.wrap ((i : Int) + 1) = ((i + 1 : Nat) : Int) := by rw [wrap_i64 (by omega) (by omega)]; omega
      simp [num, tx]
      refine iteP_intro (fun h0 => ?_) (fun h0 => ?_)
      · rw [if_neg (by omega)] at hst
        simp [num, tx, bs_size, bs_mk, bs_append]
        refine ⟨by omega, ?_⟩
        refine pol_s17 p i (lpolText (p.rules.take i) ++ [59, 32]) h1 (by simp; omega) (polOK_rules hok _ hrm) (hw _ hrm) (fun st' q1 q3 q4 m1 => ?_) _ ?_ ?_ ?_ ?_
        · simp [q1, q3, q4, num]
          refine LoopNext.mk (i + 1) h1 (by omega) (Le.mk _ _ ?_ ?_)
          · simp [num, q1, q3, q4, wi, hst]
          · simp [m1]
        all_goals simp [num, tx, polBox]
      · rw [if_pos (by omega)] at hst
        simp [num, tx]
        refine pol_s17 p i (lpolText (p.rules.take i)) h1 (by omega) (polOK_rules hok _ hrm) (hw _ hrm) (fun st' q1 q3 q4 m1 => ?_) _ ?_ ?_ ?_ ?_
        · simp [q1, q3, q4, num]
          refine LoopNext.mk (i + 1) h1 (by omega) (Le.mk _ _ ?_ ?_)
          · simp [num, q1, q3, q4, wi, hst]
          · simp [m1]
        all_goals simp [num, tx, polBox]
    · have e : i = p.rules.length := by omega
      subst e
      simp [tx]

theorem c_l08Same (x y : LPipe) (hx : lpolicyOK x.policy = true) (hy : lpolicyOK y.policy = true) (hb : bdPipe 1048576 x) (hb' : bdPipe 1048576 y) : CallOK Tryz.prog 51 [.val (rvPipe x), .val (rvPipe y)] (.ret (.val (.bool (decide (x = y)))) []) [] := by
  have key : x = y ↔ (x.channels = y.channels ∧ x.policy = y.policy ∧ x.now = y.now ∧ x.next = y.next ∧ x.log = y.log ∧ x.wires = y.wires) := by
    constructor
    · rintro rfl; simp
    · rintro ⟨h0, h1, h2, h3, h4, h5⟩
      cases x; cases y
      simp_all
  have b1 : x.channels.length ≤ 1048576 := hb.1.1
  have b2 : x.log.length ≤ 1048576 := hb.2.2.1
  have b3 : x.wires.length ≤ 1048576 := hb.2.2.2.1
  have c1 : y.channels.length ≤ 1048576 := hb'.1.1
  have c2 : y.log.length ≤ 1048576 := hb'.2.2.1
  have c3 : y.wires.length ≤ 1048576 := hb'.2.2.2.1
  have hTx := c_l04Text x.policy hx hb.2.1
  have hTy := c_l04Text y.policy hy hb'.2.1
  obtain ⟨r, hr⟩ : ∃ r, decide (x = y) = r := ⟨_, rfl⟩
  rw [hr]
  refine call_val mixed ok51 rfl (fun _ => rfl) ?_
  unfold ir51 ir51_from1 ir51_from2 ir51_from3
  rw [evalC_intro]
  simp [initSt, avPVs, avPV, avBoxesL, avBoxes, rvPipe, tx, num]
  by_cases l1 : x.channels.length = y.channels.length
  rotate_left
  · obtain rfl : r = false := by
      rw [← hr]; simp only [decide_eq_false_iff_not]; intro e; exact l1 (by rw [e])
    have l1' : ¬ (x.channels.length : Int) = y.channels.length := by omega
    simp [l1']
  have l1' : (x.channels.length : Int) = y.channels.length := by omega
  simp [l1', tx, num, PV.kill, MObj.kill]
  refine callX_val rfl rfl (.inl rfl) hTx ?_
  simp [tx, num, PV.kill, MObj.kill]
  refine callX_val rfl rfl (.inl rfl) hTy ?_
  by_cases hp : lpolText x.policy.rules = lpolText y.policy.rules
  rotate_left
  · obtain rfl : r = false := by
      rw [← hr]; simp only [decide_eq_false_iff_not]; intro e; exact hp (by rw [e])
    simp [tx, bs_inj, hp]
  have hpp := (polText_same hx hy).1 hp
  simp [hp, tx, num, bs_inj, PV.kill, MObj.kill]
  by_cases hn : x.now = y.now
  rotate_left
  · obtain rfl : r = false := by rw [← hr]; simp [key, hn]
    simp [hn]
  simp [hn, tx, num, bs_inj, PV.kill, MObj.kill]
  by_cases hx2 : x.next = y.next
  rotate_left
  · obtain rfl : r = false := by rw [← hr]; simp [key, hx2]
    simp [hx2]
  simp [hx2, tx, num, bs_inj, PV.kill, MObj.kill]
  by_cases l2 : x.log.length = y.log.length
  rotate_left
  · obtain rfl : r = false := by
      rw [← hr]; simp only [decide_eq_false_iff_not]; intro e; exact l2 (by rw [e])
    have l2' : ¬ (x.log.length : Int) = y.log.length := by omega
    simp [l2']
  have l2' : (x.log.length : Int) = y.log.length := by omega
  simp [l2', tx, num, PV.kill, MObj.kill]
  by_cases l3 : x.wires.length = y.wires.length
  rotate_left
  · obtain rfl : r = false := by
      rw [← hr]; simp only [decide_eq_false_iff_not]; intro e; exact l3 (by rw [e])
    have l3' : ¬ (x.wires.length : Int) = y.wires.length := by omega
    simp [l3']
  have l3' : (x.wires.length : Int) = y.wires.length := by omega
  simp [l3', tx, num, PV.kill, MObj.kill]
  refine loop_EC (X := Nat) (fun i => ⟨envOf [(2, .ptr 2 0), (3, .ptr 3 0), (5, .val (num i))], memOf [(2, pBox x), (3, pBox y)]⟩) (fun i => i ≤ x.channels.length ∧ x.channels.take i = y.channels.take i) (fun i => x.channels.length - i) 0 (Le.mk _ _ ?_ ?_) ?_ ?_
  · simp [upd, num, PV.kill]
  · simp [pBox, tx, num, hn, hx2]
  · simp
  rintro i ⟨hi, heq⟩
  simp [num, pBox]
  refine iteP_intro (fun h4 => ?_) (fun h4 => ?_)
  · have h4b : i < y.channels.length := by omega
    have wi : IntKind.i64.wrap ((i : Int) + 1) = ((i + 1 : Nat) : Int) := by rw [wrap_i64 (by omega) (by omega)]; omega
    have hc := c_l08SameChannel x.channels[i] y.channels[i] (hb.1.2 _ (List.getElem_mem h4)) (hb'.1.2 _ (List.getElem_mem h4b))
    simp [num, h4, h4b, rvChannel, tx, PV.kill, MObj.kill]
    refine callX_val rfl rfl (.inl rfl) hc ?_
    by_cases hu : x.channels[i] = y.channels[i]
    · simp [hu]
      refine LoopNext.mk (i + 1) ⟨by omega, take_next h4 h4b heq hu⟩ (by omega) (Le.mk _ _ ?_ ?_)
      · simp [num, wi, PV.kill]
      · simp [pBox, tx, num, MObj.kill, PV.kill]
    · obtain rfl : r = false := by
        rw [← hr]; simp only [decide_eq_false_iff_not]; rintro rfl; exact hu rfl
      simp [hu]
  have e1 : i = x.channels.length := by omega
  subst e1
  rw [List.take_length, l1, List.take_length] at heq
  have q1 := heq
  clear h4 hi heq
  simp [num]
  refine loop_EC (X := Nat) (fun i => ⟨envOf [(2, .ptr 2 0), (3, .ptr 3 0), (6, .val (num i))], memOf [(2, pBox x), (3, pBox y)]⟩) (fun i => i ≤ x.log.length ∧ x.log.take i = y.log.take i) (fun i => x.log.length - i) 0 (Le.mk _ _ ?_ ?_) ?_ ?_
  · simp [upd, num, PV.kill]
  · simp [pBox, tx, num, hn, hx2]
  · simp
  rintro i ⟨hi, heq⟩
  simp [num, pBox]
  refine iteP_intro (fun h4 => ?_) (fun h4 => ?_)
  · have h4b : i < y.log.length := by omega
    have wi : IntKind.i64.wrap ((i : Int) + 1) = ((i + 1 : Nat) : Int) := by rw [wrap_i64 (by omega) (by omega)]; omega
    simp [num, h4, h4b, rvEntry, tx, eqc_Entry, onSome]
    by_cases hu : x.log[i] = y.log[i]
    · simp [hu]
      refine LoopNext.mk (i + 1) ⟨by omega, take_next h4 h4b heq hu⟩ (by omega) (Le.mk _ _ ?_ ?_)
      · simp [num, wi, PV.kill]
      · simp [pBox, tx, num, MObj.kill, PV.kill]
    · obtain rfl : r = false := by
        rw [← hr]; simp only [decide_eq_false_iff_not]; rintro rfl; exact hu rfl
      simp [hu]
  have e2 : i = x.log.length := by omega
  subst e2
  rw [List.take_length, l2, List.take_length] at heq
  have q2 := heq
  clear h4 hi heq
  simp [num]
  refine loop_EC (X := Nat) (fun i => ⟨envOf [(2, .ptr 2 0), (3, .ptr 3 0), (7, .val (num i))], memOf [(2, pBox x), (3, pBox y)]⟩) (fun i => i ≤ x.wires.length ∧ x.wires.take i = y.wires.take i) (fun i => x.wires.length - i) 0 (Le.mk _ _ ?_ ?_) ?_ ?_
  · simp [upd, num, PV.kill]
  · simp [pBox, tx, num, hn, hx2]
  · simp
  rintro i ⟨hi, heq⟩
  simp [num, pBox]
  refine iteP_intro (fun h4 => ?_) (fun h4 => ?_)
  · have h4b : i < y.wires.length := by omega
    have wi : IntKind.i64.wrap ((i : Int) + 1) = ((i + 1 : Nat) : Int) := by rw [wrap_i64 (by omega) (by omega)]; omega
    have hc := c_l08SameWire x.wires[i] y.wires[i] (by have := (hb.2.2.2.2 _ (List.getElem_mem h4)).2.2.1; omega) (by have := (hb'.2.2.2.2 _ (List.getElem_mem h4b)).2.2.1; omega)
    simp [num, h4, h4b, rvWire, tx, PV.kill, MObj.kill]
    refine callX_val rfl rfl (.inl rfl) hc ?_
    by_cases hu : x.wires[i] = y.wires[i]
    · simp [hu]
      refine LoopNext.mk (i + 1) ⟨by omega, take_next h4 h4b heq hu⟩ (by omega) (Le.mk _ _ ?_ ?_)
      · simp [num, wi, PV.kill]
      · simp [pBox, tx, num, MObj.kill, PV.kill]
    · obtain rfl : r = false := by
        rw [← hr]; simp only [decide_eq_false_iff_not]; rintro rfl; exact hu rfl
      simp [hu]
  have e3 : i = x.wires.length := by omega
  subst e3
  rw [List.take_length, l3, List.take_length] at heq
  have q3 := heq
  clear h4 hi heq
  simp [num]
  obtain rfl : r = true := by rw [← hr]; simp [key, q1, q2, q3, hpp, hn, hx2]
  simp

def lsamePipe (x y : LPipe) : Bool := lpipeOK x && (lpipeOK y && decide (x = y))
theorem pipe_pol {p : LPipe} (h : lpipeOK p = true) : lpolicyOK p.policy = true := by
  unfold lpipeOK at h
  simp only [Bool.and_eq_true] at h
  exact h.1.1.1.1.1.2

theorem c_specSamePipe (x y : LPipe) (hb : bdPipe 1048576 x) (hb' : bdPipe 1048576 y) : CallOK Tryz.prog 18 [.val (rvPipe x), .val (rvPipe y)] (.ret (.val (.bool (lsamePipe x y))) []) [] := by
  have hP := c_l08OK x hb
  have hQ := c_l08OK y hb'
  unfold lsamePipe
  refine call_val mixed ok18 rfl (fun _ => rfl) ?_
  unfold ir18
  rw [evalC_intro]
  cases hk : lpipeOK x with
  | false =>
    rw [hk] at hP
    simp [initSt, avPVs, avPV, avBoxesL, avBoxes, rvPipe, tx, num]
    refine callS_val rfl rfl (.inl rfl) hP ?_
    simp [num]
  | true =>
  rw [hk] at hP
  cases hj : lpipeOK y with
  | false =>
    rw [hj] at hQ
    simp [initSt, avPVs, avPV, avBoxesL, avBoxes, rvPipe, tx, num]
    refine callS_val rfl rfl (.inl rfl) hP ?_
    simp [num]
    refine callS_val rfl rfl (.inl rfl) hQ ?_
    simp [num]
  | true =>
  rw [hj] at hQ
  have hS := c_l08Same x y (pipe_pol hk) (pipe_pol hj) hb hb'
  simp [initSt, avPVs, avPV, avBoxesL, avBoxes, rvPipe, tx, num]
  refine callS_val rfl rfl (.inl rfl) hP ?_
  simp [num]
  refine callS_val rfl rfl (.inl rfl) hQ ?_
  simp [num]
  refine callS_val rfl rfl (.inl rfl) hS ?_
  simp [num]

theorem i_SamePipe (x y : LPipe) (hb : bdPipe 1048576 x) (hb' : bdPipe 1048576 y) : CallOK Tryz.prog 19 [.val (rvPipe x), .val (rvPipe y)] (.ret (.val (.bool (lsamePipe x y))) []) [] := by
  have key : x = y ↔ (x.channels = y.channels ∧ x.policy = y.policy ∧ x.now = y.now ∧ x.next = y.next ∧ x.log = y.log ∧ x.wires = y.wires) := by
    constructor
    · rintro rfl; simp
    · rintro ⟨h0, h1, h2, h3, h4, h5⟩
      cases x; cases y
      simp_all
  have b1 : x.channels.length ≤ 1048576 := hb.1.1
  have b2 : x.log.length ≤ 1048576 := hb.2.2.1
  have b3 : x.wires.length ≤ 1048576 := hb.2.2.2.1
  have c1 : y.channels.length ≤ 1048576 := hb'.1.1
  have c2 : y.log.length ≤ 1048576 := hb'.2.2.1
  have c3 : y.wires.length ≤ 1048576 := hb'.2.2.2.1
  have hP := i_PipeOK x hb
  have hQ := i_PipeOK y hb'
  have hC := i_EqualFunc_Channel x.channels y.channels 53 (by omega) (by omega) (by kernel_rfl) (fun a ha b hb2 => i_sameChannel a b (hb.1.2 a ha) (hb'.1.2 b hb2))
  have hL := i_samePolicy x.policy y.policy hb.2.1 hb'.2.1
  have hE := i_Equal_Entry x.log y.log (by omega) (by omega)
  have hW := i_EqualFunc_Wire x.wires y.wires 57 (by omega) (by omega) (by kernel_rfl) (fun a ha b hb2 => i_sameWire a b (by have := (hb.2.2.2.2 a ha).2.2.1; omega) (by have := (hb'.2.2.2.2 b hb2).2.2.1; omega))
  obtain ⟨r, hr⟩ : ∃ r, lsamePipe x y = r := ⟨_, rfl⟩
  rw [hr]
  unfold lsamePipe at hr
  refine call_val mixed ok19 rfl (fun _ => rfl) ?_
  unfold ir19
  rw [evalC_intro]
  simp [initSt, avPVs, avPV, avBoxesL, avBoxes, rvPipe, tx, num]
  refine callS_val rfl rfl (.inl rfl) hP ?_
  cases hk : lpipeOK x with
  | false =>
    rw [hk] at hr
    obtain rfl : r = false := by rw [← hr]; rfl
    simp [num]
  | true =>
  simp [num]
  refine callS_val rfl rfl (.inl rfl) hQ ?_
  cases hj : lpipeOK y with
  | false =>
    rw [hk, hj] at hr
    obtain rfl : r = false := by rw [← hr]; rfl
    simp [num]
  | true =>
  rw [hk, hj, Bool.true_and, Bool.true_and] at hr
  simp [num]
  refine callS_val rfl rfl (.inl rfl) hC ?_
  by_cases h0 : x.channels = y.channels
  rotate_left
  · obtain rfl : r = false := by rw [← hr]; simp [key, h0]
    simp [h0]
  simp [h0, tx, num, PV.kill, MObj.kill]
  refine callS_val rfl rfl (.inl rfl) hL ?_
  by_cases h1 : x.policy = y.policy
  rotate_left
  · obtain rfl : r = false := by rw [← hr]; simp [key, h1]
    simp [h1]
  simp [h1, tx, num, PV.kill, MObj.kill]
  by_cases h2 : x.now = y.now
  rotate_left
  · obtain rfl : r = false := by rw [← hr]; simp [key, h2]
    simp [h2]
  simp [h2, tx, num, PV.kill, MObj.kill]
  by_cases h3 : x.next = y.next
  rotate_left
  · obtain rfl : r = false := by rw [← hr]; simp [key, h3]
    simp [h3]
  simp [h3, tx, num, PV.kill, MObj.kill]
  refine callS_val rfl rfl (.inl rfl) hE ?_
  by_cases h4 : x.log = y.log
  rotate_left
  · obtain rfl : r = false := by rw [← hr]; simp [key, h4]
    simp [h4]
  simp [h4, tx, num, PV.kill, MObj.kill]
  refine callS_val rfl rfl (.inl rfl) hW ?_
  obtain rfl : r = decide (x.wires = y.wires) := by rw [← hr]; simp [key, h0, h1, h2, h3, h4]
  simp

theorem law_SamePipe (x y : LPipe) (hb : bdPipe 9223372036854775807 x) (hb' : bdPipe 9223372036854775807 y) : CallOK Tryz.prog 6 [.val (rvPipe x), .val (rvPipe y)] (.ret (.val (.bool true)) []) [] := by
  refine call_val mixed ok6 rfl (fun _ => rfl) ?_
  unfold ir6
  rw [evalC_intro]
  simp [initSt, avPVs, avPV, avBoxesL, avBoxes, rvPipe, tx, num, allVal]
  refine callS_val rfl rfl (.inl rfl) (g_szPipe x 1048576 (by omega) (by omega) hb) ?_
  by_cases hz : cut 1048576 (zPipe x) < 0
  · simp [num, hz]
  obtain ⟨hz1, hz2⟩ := cut_small hz (by omega)
  have hs : bdPipe 1048576 x := zPipe_bd (by omega)
  simp [num, hz, tx, allVal]
  refine callS_val rfl rfl (.inl rfl) (g_szPipe y (cut 1048576 (zPipe x)) (by omega) (by omega) hb') ?_
  by_cases hy : cut (cut 1048576 (zPipe x)) (zPipe y) < 0
  · simp [num, hy]
  obtain ⟨hy1, hy2⟩ := cut_small hy (by omega)
  have hs' : bdPipe 1048576 y := zPipe_bd (by omega)
  simp [num, hy, tx, allVal]
  refine callX_val rfl rfl (.inl rfl) (g_toPipe x hs) ?_
  simp [allVal, rvPipe, tx, num]
  refine callS_val rfl rfl (.inl rfl) (g_toPipe y hs') ?_
  simp [allVal, rvPipe, tx, num]
  refine callS_val rfl rfl (.inl rfl) (c_specSamePipe x y hs hs') ?_
  simp [allVal, rvPipe, tx, num]
  refine callS_val rfl rfl (.inl rfl) (g_toPipe x hs) ?_
  simp [allVal, rvPipe, tx, num]
  refine callS_val rfl rfl (.inl rfl) (g_toPipe y hs') ?_
  simp [allVal, rvPipe, tx, num]
  refine callS_val rfl rfl (.inl rfl) (i_SamePipe x y hs hs') ?_
  simp [allVal, rvPipe, tx, num]
  refine callX_val rfl rfl (.inl rfl) (g_toPipe x hs) ?_
  simp [allVal, rvPipe, tx, num]
  refine callS_val rfl rfl (.inl rfl) (g_eqPipe x hs) ?_
  simp [allVal, rvPipe, tx, num]
  refine callX_val rfl rfl (.inl rfl) (g_toPipe y hs') ?_
  simp [allVal, rvPipe, tx, num]
  refine callS_val rfl rfl (.inl rfl) (g_eqPipe y hs') ?_
  simp
end Go.Proofs
end
