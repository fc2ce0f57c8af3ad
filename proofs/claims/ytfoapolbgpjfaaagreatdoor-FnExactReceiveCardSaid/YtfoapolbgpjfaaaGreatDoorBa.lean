/- Ba: merged out of IRs, IRt, IRw, IRx, IRm, IRe, IRf, IRg, IRo, IRff, IRcc, IRpp, IRrr, IRjj, IRww, IRxx, IRyy, IRzz, IRba, IRbd, IRbc, IRbe. -/
import Derived.Test.YtfoapolbgpjfaaaGreatDoorPWv
import Derived.Test.YtfoapolbgpjfaaaGreatDoorChecked
import Derived.KernelRfl
import Derived.Test.YtfoapolbgpjfaaaGreatDoorPWaj
set_option maxRecDepth 100000
section
namespace Go.Proofs
open Go.PW Go.PW.I
def ir129:PC:=.seq (.reg [o 6 (.mov F)]) (.seq (.reg [m 7 0,m 8 1,o 9 (.bin .geq (.t 7) (.t 8)),m 10 9,g 11 10 true (.mov (.t 0)),g 12 10 true (.mov (.t 2)),g 13 10 true
 (.bin .leq (.t 11) (.t 12)),o 14 (.pick (.t 10) (.t 13) F),m 6 14]) (.ret))
theorem ok129:K5 Tryz.prog 129 ir129 3 [.t 6]=true:=by kernel_rfl
def ir198:PC:=.seq (.reg [o 4 (.mov (i 0))]) (.seq (.seq (.reg [o 5 (.mov (i 0))]) (.block 0 (.loop (.ghost (.seq (.seq (.reg [m 6 5,m 7 0,o 8 (.lens (.t 7)),o 9 (.bin .lss
 (.t 6) (.t 8))]) (.cond (.t 9) (.skip) (.exit 0))) (.seq (.block 1 (.seq (.reg [m 12 0,m 13 5,o 14 (.idx (.t 12) (.t 13)),m 15 1,o 16 (.bin .eql (.t 14) (.t 15))]) (.cond (.t
 16) (.seq (.reg [m 17 5,m 4 17]) (.ret)) (.skip)))) (.reg [m 10 5,o 11 (.bin .add (.t 10) (i 1)),m 5 11]))))))) (.seq (.reg [m 18 0,o 19 (.lens (.t 18)),m 4 19]) (.ret)))
theorem ok198:K5 Tryz.prog 198 ir198 2 [.t 4]=true:=by kernel_rfl
def ir215:PC:=.seq (.reg [o 2 (.mov F)]) (.seq (.reg [m 3 0,o 4 (.bin .geq (.t 3) (.k (.val (.int .u8 48)))),m 5 4,g 6 5 true (.mov (.t 0)),g 7 5 true (.bin .leq (.t 6) (.k
 (.val (.int .u8 57)))),o 8 (.pick (.t 5) (.t 7) F),m 2 8]) (.ret))
theorem ok215:K5 Tryz.prog 215 ir215 1 [.t 2]=true:=by kernel_rfl
def ir223:PC:=.seq (.reg [o 2 (.mov (z #[]))]) (.seq (.seq (.reg [m 3 0,o 4 (.bin .eql (.t 3) (i (-9223372036854775808)))]) (.cond (.t 4) (.seq (.reg [o 2 (.mov (z #[45,57,
 50,50,51,51,55,50,48,51,54,56,53,52,55,55,53,56,48,56]))]) (.ret)) (.skip))) (.seq (.seq (.reg [m 5 0,o 6 (.bin .lss (.t 5) (i 0))]) (.cond (.t 6) (.seq (.reg [m
 7 0,o 8 (.un .neg (.t 7)),o 9 (.call 223 [.t 8]),o 10 (.bin .add (z #[45]) (.t 9)),m 2 10]) (.ret)) (.skip))) (.seq (.seq (.reg [m 11 0,o 12 (.bin .lss (.t 11) (i 10))])
 (.cond (.t 12) (.seq (.reg [m 13 0,o 14 (.bin .add (i 48) (.t 13)),o 15 (.conv .u8 (.t 14)),o 16 (.lit 5 1 [.t 15]),o 17 (.tostr (.t 16)),m 2 17]) (.ret)) (.skip))) (.seq
 (.draw [m 18 0,o 19 (.bin .quo (.t 18) (i 10)),o 20 (.call 223 [.t 19]),m 21 0,o 22 (.bin .rem (.t 21) (i 10)),o 23 (.bin .add (i 48) (.t 22)),o 24 (.conv .u8 (.t 23)),o 25
 (.lit 5 1 [.t 24]),o 26 (.tostr (.t 25)),o 27 (.bin .add (.t 20) (.t 26))] [m 2 27]) (.ret)))))
theorem ok223:K5 Tryz.prog 223 ir223 1 [.t 2]=true:=by kernel_rfl
def ir240_from5:PC:=.seq (.seq (.reg [o 6 (.mov (i 0))]) (.block 0 (.loop (.ghost (.seq (.seq (.reg [m 39 6,m 40 0,o 41 (.lens (.t 40)),o 42 (.bin .lss (.t 39) (.t 41))])
 (.cond (.t 42) (.skip) (.exit 0))) (.seq (.block 1 (.seq (.seq (.reg [m 45 0,m 46 6,o 47 (.idx (.t 45) (.t 46)),o 48 (.bin .lss (.t 47) (.k (.val (.int .u8 48)))),m 49 48,g 50
 49 false (.mov (.t 0)),g 51 49 false (.mov (.t 6)),g 52 49 false (.idx (.t 50) (.t 51)),g 53 49 false (.bin .gtr (.t 52) (.k (.val (.int .u8 57)))),o 54 (.pick (.t 49) T (.t
 53))]) (.cond (.t 54) (.seq (.reg [o 2 (.mov (i 0)),o 3 (.mov F)]) (.ret)) (.skip))) (.reg [m 55 5,o 56 (.bin .mul (.t 55) (i 10)),m 57 0,m 58 6,o 59 (.idx (.t 57) (.t 58)),o
 60 (.conv .i64 (.t 59)),o 61 (.bin .add (.t 56) (.t 60)),o 62 (.bin .sub (.t 61) (i 48)),m 5 62]))) (.reg [m 43 6,o 44 (.bin .add (.t 43) (i 1)),m 6 44]))))))) (.seq (.reg [m
 63 4,m 64 5,o 65 (.bin .mul (.t 63) (.t 64)),m 2 65,o 3 (.mov T)]) (.ret))
def ir240_from3:PC:=.seq (.seq (.reg [m 17 0,o 18 (.lens (.t 17)),o 19 (.bin .eql (.t 18) (i 0)),m 20 19,g 21 20 false (.mov (.t 0)),g 22 20 false (.lens (.t 21)),g 23 20
 false (.bin .gtr (.t 22) (i 18)),o 24 (.pick (.t 20) T (.t 23)),m 25 24,g 26 25 false (.mov (.t 0)),g 27 25 false (.idx (.t 26) (i 0)),g 28 25 false (.bin .eql (.t 27) (.k
 (.val (.int .u8 48)))),g 29 25 false (.mov (.t 28)),g 30 29 true (.mov (.t 0)),g 31 29 true (.lens (.t 30)),g 32 29 true (.bin .gtr (.t 31) (i 1)),g 33 29 true (.mov (.t 32)),
 g 34 33 false (.mov (.t 4)),g 35 33 false (.bin .lss (.t 34) (i 0)),g 36 29 true (.pick (.t 33) T (.t 35)),g 37 25 false (.pick (.t 29) (.t 36) F),o 38 (.pick (.t 25) T (.t
 37))]) (.cond (.t 38) (.seq (.reg [o 2 (.mov (i 0)),o 3 (.mov F)]) (.ret)) (.skip))) (.seq (.reg [o 5 (.mov (i 0))]) (ir240_from5))
def ir240:PC:=.seq (.reg [o 2 (.mov (i 0)),o 3 (.mov F)]) (.seq (.reg [o 4 (.mov (i 1))]) (.seq (.seq (.reg [m 7 0,o 8 (.lens (.t 7)),o 9 (.bin .gtr (.t 8) (i 0)),m 10 9,g
 11 10 true (.mov (.t 0)),g 12 10 true (.idx (.t 11) (i 0)),g 13 10 true (.bin .eql (.t 12) (.k (.val (.int .u8 45)))),o 14 (.pick (.t 10) (.t 13) F)]) (.cond (.t 14) (.seq (.reg
 [o 4 (.mov (i (-1)))]) (.reg [m 15 0,o 16 (.slc 0 (.t 15) (some (i 1)) none),m 0 16])) (.skip))) (ir240_from3)))
theorem ok240:K5 Tryz.prog 240 ir240 1 [.t 2,.t 3]=true:=by kernel_rfl
end Go.Proofs
end
section
namespace Go.Proofs
open Go.PW Go.PW.I
end Go.Proofs
end
section
namespace Go.Proofs
open Go.PW Go.PW.I
def ir106:PC:=.seq (.reg [o 6 (.mov F)]) (.seq (.reg [m 7 1,m 8 0,o 9 (.bin .leq (.t 7) (.t 8)),m 10 9,g 11 10 true (.mov (.t 0)),g 12 10 true (.mov (.t 2)),g 13 10 true
 (.bin .leq (.t 11) (.t 12)),o 14 (.pick (.t 10) (.t 13) F),m 6 14]) (.ret))
theorem ok106:K5 Tryz.prog 106 ir106 3 [.t 6]=true:=by kernel_rfl
def ir125:PC:=.seq (.reg [o 4 (.mov (i 0))]) (.seq (.seq (.reg [m 5 0]) (.cond (.t 5) (.seq (.reg [o 4 (.mov (i 0))]) (.ret)) (.skip))) (.seq (.reg [m 6 1,m 4 6]) (.ret)))
theorem ok125:K5 Tryz.prog 125 ir125 2 [.t 4]=true:=by kernel_rfl
def ir84:PC:=.seq (.reg [o 2 (.mov (i 0))]) (.seq (.reg [m 3 0,o 4 (.lens (.t 3)),o 5 (.bin .leq (.t 4) (i 65536)),o 6 (.call 125 [.t 5,.k (.val (.int .i64 2))]),m 2 6])
 (.ret))
theorem ok84:K5 Tryz.prog 84 ir84 1 [.t 2]=true:=by kernel_rfl
def ir260:PC:=.seq (.reg [o 2 (.mov F)]) (.seq (.reg [m 3 0,o 4 (.bin .leq (.k (.val (.int .u8 48))) (.t 3)),m 5 4,g 6 5 true (.mov (.t 0)),g 7 5 true (.bin .leq (.t 6) (.k
 (.val (.int .u8 57)))),o 8 (.pick (.t 5) (.t 7) F),m 2 8]) (.ret))
theorem ok260:K5 Tryz.prog 260 ir260 1 [.t 2]=true:=by kernel_rfl
def ir120:PC:=.seq (.reg [o 2 (.mov (z #[]))]) (.seq (.reg [m 3 0,o 4 (.call 183 [.t 3]),m 2 4]) (.ret))
theorem ok120:K5 Tryz.prog 120 ir120 1 [.t 2]=true:=by kernel_rfl
def ir123:PC:=.seq (.reg [o 2 (.mov F)]) (.seq (.reg [m 3 0,o 4 (.call 106 [.t 3,.k (.val (.int .i64 0)),.k (.val (.int .i64 1000000))]),m 2 4]) (.ret))
theorem ok123:K5 Tryz.prog 123 ir123 1 [.t 2]=true:=by kernel_rfl
end Go.Proofs
end
section
namespace Go.Proofs
open Go.PW Go.PW.I
def ir249_from4:PC:=.seq (.reg [m 23 4,m 24 5,o 25 (.isnil true false (.t 24)),m 26 25,g 27 26 true (.mov (.t 6)),g 28 26 true (.bin .leq (.t 27) (i 18)),o 29 (.pick (.t
 26) (.t 28) F),m 30 29,g 31 30 true (.mov (.t 4)),g 32 30 true (.call 183 [.t 31]),g 33 30 true (.mov (.t 0)),g 34 30 true (.bin .eql (.t 32) (.t 33)),o 35 (.pick (.t 30) (.t
 34) F),m 2 23,m 3 35]) (.ret)
def ir249:PC:=.seq (.reg [o 2 (.mov (i 0)),o 3 (.mov F)]) (.seq (.reg [m 8 0,o 9 (.call 277 [.t 8]),m 7 9,o 10 (.ext 0 (.t 7)),o 11 (.ext 1 (.t 7)),m 4 10,m 5 11]) (.seq
 (.reg [m 12 0,o 13 (.lens (.t 12)),m 6 13]) (.seq (.seq (.reg [m 14 0,o 15 (.bin .neq (.t 14) (z #[])),m 16 15,g 17 16 true (.mov (.t 0)),g 18 16 true (.idx (.t 17) (i 0)),g
 19 16 true (.bin .eql (.t 18) (.k (.val (.int .u8 45)))),o 20 (.pick (.t 16) (.t 19) F)]) (.cond (.t 20) (.reg [m 21 6,o 22 (.bin .sub (.t 21) (i 1)),m 6 22]) (.skip)))
 (ir249_from4))))
theorem ok249:K5 Tryz.prog 249 ir249 1 [.t 2,.t 3]=true:=by kernel_rfl
end Go.Proofs
end
section
namespace Go.Proofs
open Go.PW Go.PW.I
end Go.Proofs
end
section
namespace Go.Proofs
open Go.PW Go.PW.I
def ir192:PC:=.seq (.reg [o 4 (.mov F)]) (.seq (.seq (.reg [o 5 (.mov (i 0))]) (.block 0 (.loop (.ghost (.seq (.seq (.reg [m 6 5,m 7 0,o 8 (.len (.t 7)),o 9 (.bin .lss (.t 6)
 (.t 8))]) (.cond (.t 9) (.skip) (.exit 0))) (.seq (.block 1 (.seq (.reg [m 12 0,m 13 5,o 14 (.iaddr 1 (.t 12) (.t 13)),l 15 14,m 16 1,o 17 (.bin .eql (.t 15) (.t 16))]) (.cond
 (.t 17) (.seq (.reg [o 4 (.mov T)]) (.ret)) (.skip)))) (.reg [m 10 5,o 11 (.bin .add (.t 10) (i 1)),m 5 11]))))))) (.seq (.reg [o 4 (.mov F)]) (.ret)))
theorem ok192:K5 Tryz.prog 192 ir192 2 [.t 4]=true:=by kernel_rfl
end Go.Proofs
end
section
namespace Go.Proofs
open Go.PW Go.PW.I
def ir77:PC:=.seq (.reg [o 4 (.mov (i 0))]) (.seq (.reg [m 6 1,m 7 0,o 8 (.len (.t 7)),o 9 (.bin .sub (.t 6) (.t 8)),m 1 9]) (.seq (.seq (.reg [m 10 1,o 11 (.bin .lss (.t
 10) (i 0))]) (.cond (.t 11) (.seq (.reg [o 4 (.mov (i (-1)))]) (.ret)) (.skip))) (.seq (.seq (.reg [o 5 (.mov (i 0))]) (.block 0 (.loop (.ghost (.seq (.seq (.reg [m 12 5,m 13 0,o
 14 (.len (.t 13)),o 15 (.bin .lss (.t 12) (.t 14))]) (.cond (.t 15) (.skip) (.exit 0))) (.seq (.block 1 (.seq (.reg [m 18 1,m 19 0,m 20 5,o 21 (.iaddr 1 (.t 19) (.t 20)),l 22
 21,o 23 (.lens (.t 22)),o 24 (.bin .sub (.t 18) (.t 23)),m 1 24]) (.seq (.reg [m 25 1,o 26 (.bin .lss (.t 25) (i 0))]) (.cond (.t 26) (.seq (.reg [o 4 (.mov (i (-1)))]) (.ret))
 (.skip))))) (.reg [m 16 5,o 17 (.bin .add (.t 16) (i 1)),m 5 17]))))))) (.seq (.reg [m 27 1,m 4 27]) (.ret)))))
theorem ok77:K5 Tryz.prog 77 ir77 2 [.t 4]=true:=by kernel_rfl
def ir81:PC:=.seq (.reg [o 2 (.mov (.k (.emp 1)))]) (.seq (.reg [m 5 0,o 6 (.len (.t 5)),o 7 (.mks 9 1 16 false [.val (.str ⟨#[]⟩)] (.t 6)),m 3 7]) (.seq (.seq (.reg [o 4
 (.mov (i 0))]) (.block 0 (.loop (.ghost (.seq (.seq (.reg [m 8 4,m 9 0,o 10 (.len (.t 9)),o 11 (.bin .lss (.t 8) (.t 10))]) (.cond (.t 11) (.skip) (.exit 0))) (.seq (.block 1
 (.reg [m 14 3,m 15 4,m 16 0,m 17 4,o 18 (.iaddr 1 (.t 16) (.t 17)),l 19 18,o 20 (.iaddr 1 (.t 14) (.t 15)),n (.store 1 (.t 20) (.t 19))])) (.reg [m 12 4,o 13 (.bin .add (.t
 12) (i 1)),m 4 13]))))))) (.seq (.reg [m 21 3,m 2 21]) (.ret))))
theorem ok81:K5 Tryz.prog 81 ir81 1 [.t 2]=true:=by kernel_rfl
def ir73:PC:=.seq (.reg [o 4 (.mov F)]) (.seq (.seq (.reg [m 6 0,o 7 (.len (.t 6)),m 8 1,o 9 (.len (.t 8)),o 10 (.bin .neq (.t 7) (.t 9))]) (.cond (.t 10) (.seq (.reg [o 4
 (.mov F)]) (.ret)) (.skip))) (.seq (.seq (.reg [o 5 (.mov (i 0))]) (.block 0 (.loop (.ghost (.seq (.seq (.reg [m 11 5,m 12 0,o 13 (.len (.t 12)),o 14 (.bin .lss (.t 11) (.t
 13))]) (.cond (.t 14) (.skip) (.exit 0))) (.seq (.block 1 (.seq (.draw [m 17 0,m 18 5,o 19 (.iaddr 1 (.t 17) (.t 18)),l 20 19,m 21 1,m 22 5,o 23 (.iaddr 1 (.t 21) (.t 22)),l
 24 23] [o 25 (.bin .neq (.t 20) (.t 24))]) (.cond (.t 25) (.seq (.reg [o 4 (.mov F)]) (.ret)) (.skip)))) (.reg [m 15 5,o 16 (.bin .add (.t 15) (i 1)),m 5 16]))))))) (.seq (.reg
 [o 4 (.mov T)]) (.ret))))
theorem ok73:K5 Tryz.prog 73 ir73 2 [.t 4]=true:=by kernel_rfl
end Go.Proofs
end
section
namespace Go.Proofs
open Go.PW Go.PW.I
def ir119:PC:=.seq (.reg [o 4 (.mov (i 0))]) (.seq (.seq (.reg [m 6 0,o 7 (.len (.t 6)),o 8 (.mov (i 0))]) (.block 0 (.loop (.ghost (.seq (.reg [o 9 (.bin .lss (.t 8) (.t
 7))]) (.seq (.cond (.t 9) (.skip) (.exit 0)) (.seq (.block 1 (.seq (.reg [m 10 8,m 5 10]) (.seq (.reg [m 11 1,m 12 0,m 13 5,o 14 (.iaddr 1 (.t 12) (.t 13)),l 15 14,o 16 (.bin
 .eql (.t 11) (.t 15))]) (.cond (.t 16) (.seq (.reg [m 17 5,m 4 17]) (.ret)) (.skip))))) (.reg [o 18 (.bin .add (.t 8) (i 1)),m 8 18])))))))) (.seq (.reg [o 4 (.mov (i (-1)))])
 (.ret)))
theorem ok119:K5 Tryz.prog 119 ir119 2 [.t 4]=true:=by kernel_rfl
def ir140:PC:=.seq (.reg [o 4 (.mov F)]) (.seq (.reg [m 5 0,m 6 1,o 7 (.call 119 [.t 5,.t 6]),o 8 (.bin .geq (.t 7) (i 0)),m 4 8]) (.ret))
theorem ok140:K5 Tryz.prog 140 ir140 2 [.t 4]=true:=by kernel_rfl
end Go.Proofs
end
section
namespace Go.Proofs
open Go.PW Go.PW.I
def ir64:PC:=.seq (.reg [o 4 (.mov (i 0))]) (.seq (.reg [m 5 1,m 6 0,o 7 (.len (.t 6)),o 8 (.bin .sub (.t 5) (.t 7)),m 1 8]) (.seq (.seq (.reg [m 9 1,o 10 (.bin .lss (.t 9)
 (i 0))]) (.cond (.t 10) (.seq (.reg [o 4 (.mov (i (-1)))]) (.ret)) (.skip))) (.seq (.reg [m 11 1,m 4 11]) (.ret))))
theorem ok64:K5 Tryz.prog 64 ir64 2 [.t 4]=true:=by kernel_rfl
def ir66:PC:=.seq (.reg [o 2 (.mov (.k (.emp 1)))]) (.seq (.reg [m 5 0,o 6 (.len (.t 5)),o 7 (.mks 3 1 8 false [.val (.int .i64 0)] (.t 6)),m 3 7]) (.seq (.seq (.reg [o 4
 (.mov (i 0))]) (.block 0 (.loop (.ghost (.seq (.seq (.reg [m 8 4,m 9 0,o 10 (.len (.t 9)),o 11 (.bin .lss (.t 8) (.t 10))]) (.cond (.t 11) (.skip) (.exit 0))) (.seq (.block 1
 (.reg [m 14 3,m 15 4,m 16 0,m 17 4,o 18 (.iaddr 1 (.t 16) (.t 17)),l 19 18,o 20 (.iaddr 1 (.t 14) (.t 15)),n (.store 1 (.t 20) (.t 19))])) (.reg [m 12 4,o 13 (.bin .add (.t
 12) (i 1)),m 4 13]))))))) (.seq (.reg [m 21 3,m 2 21]) (.ret))))
theorem ok66:K5 Tryz.prog 66 ir66 1 [.t 2]=true:=by kernel_rfl
def ir68:PC:=.seq (.reg [o 4 (.mov F)]) (.seq (.seq (.reg [m 6 0,o 7 (.len (.t 6)),m 8 1,o 9 (.len (.t 8)),o 10 (.bin .neq (.t 7) (.t 9))]) (.cond (.t 10) (.seq (.reg [o 4
 (.mov F)]) (.ret)) (.skip))) (.seq (.seq (.reg [o 5 (.mov (i 0))]) (.block 0 (.loop (.ghost (.seq (.seq (.reg [m 11 5,m 12 0,o 13 (.len (.t 12)),o 14 (.bin .lss (.t 11) (.t
 13))]) (.cond (.t 14) (.skip) (.exit 0))) (.seq (.block 1 (.seq (.draw [m 17 0,m 18 5,o 19 (.iaddr 1 (.t 17) (.t 18)),l 20 19,m 21 1,m 22 5,o 23 (.iaddr 1 (.t 21) (.t 22)),l
 24 23] [o 25 (.bin .neq (.t 20) (.t 24))]) (.cond (.t 25) (.seq (.reg [o 4 (.mov F)]) (.ret)) (.skip)))) (.reg [m 15 5,o 16 (.bin .add (.t 15) (i 1)),m 5 16]))))))) (.seq (.reg
 [o 4 (.mov T)]) (.ret))))
theorem ok68:K5 Tryz.prog 68 ir68 2 [.t 4]=true:=by kernel_rfl
def ir16:PC:=.seq (.reg [o 2 (.box (.t 0)),o 4 (.mov (i 0))]) (.seq (.reg [m 5 1,o 6 (.faddr 2 (.t 2)),l 7 6,o 8 (.lens (.t 7)),o 9 (.bin .sub (.t 5) (.t 8)),m 1 9]) (.seq
 (.seq (.reg [m 10 1,o 11 (.bin .lss (.t 10) (i 0))]) (.cond (.t 11) (.seq (.reg [o 4 (.mov (i (-1)))]) (.ret)) (.skip))) (.seq (.reg [m 12 1,o 13 (.faddr 3 (.t 2)),l 14 13,o 15
 (.lens (.t 14)),o 16 (.bin .sub (.t 12) (.t 15)),m 1 16]) (.seq (.seq (.reg [m 17 1,o 18 (.bin .lss (.t 17) (i 0))]) (.cond (.t 18) (.seq (.reg [o 4 (.mov (i (-1)))]) (.ret))
 (.skip))) (.seq (.reg [o 19 (.faddr 4 (.t 2)),l 20 19,m 21 1,o 22 (.call 64 [.t 20,.t 21]),m 1 22]) (.seq (.seq (.reg [m 23 1,o 24 (.bin .lss (.t 23) (i 0))]) (.cond (.t 24)
 (.seq (.reg [o 4 (.mov (i (-1)))]) (.ret)) (.skip))) (.seq (.reg [m 25 1,o 26 (.faddr 5 (.t 2)),l 27 26,o 28 (.lens (.t 27)),o 29 (.bin .sub (.t 25) (.t 28)),m 1 29]) (.seq
 (.seq (.reg [m 30 1,o 31 (.bin .lss (.t 30) (i 0))]) (.cond (.t 31) (.seq (.reg [o 4 (.mov (i (-1)))]) (.ret)) (.skip))) (.seq (.reg [m 32 1,m 4 32]) (.ret))))))))))
theorem ok16:K5 Tryz.prog 16 ir16 2 [.t 4]=true:=by kernel_rfl
def ir18:PC:=.seq (.reg [o 1 (.box (.t 0)),o 2 (.alloc [.val (.int .i64 0),.val (.int .i64 0),.val (.str ⟨#[]⟩),.val (.str ⟨#[]⟩),.emp 1,.val (.str ⟨#[]⟩),.val (.bool
 false)])]) (.seq (.reg [o 3 (.alloc [.val (.int .i64 0),.val (.int .i64 0),.val (.str ⟨#[]⟩),.val (.str ⟨#[]⟩),.emp 1,.val (.str ⟨#[]⟩),.val (.bool false)])]) (.seq (.reg [o
 4 (.faddr 0 (.t 1)),l 5 4,o 6 (.faddr 0 (.t 3)),n (.store 1 (.t 6) (.t 5))]) (.seq (.reg [o 7 (.faddr 1 (.t 1)),l 8 7,o 9 (.faddr 1 (.t 3)),n (.store 1 (.t 9) (.t 8))]) (.seq
 (.reg [o 10 (.faddr 2 (.t 1)),l 11 10,o 12 (.faddr 2 (.t 3)),n (.store 1 (.t 12) (.t 11))]) (.seq (.reg [o 13 (.faddr 3 (.t 1)),l 14 13,o 15 (.faddr 3 (.t 3)),n (.store 1 (.t
 15) (.t 14))]) (.seq (.reg [o 16 (.faddr 4 (.t 1)),l 17 16,o 18 (.call 66 [.t 17]),o 19 (.faddr 4 (.t 3)),n (.store 1 (.t 19) (.t 18))]) (.seq (.reg [o 20 (.faddr 5 (.t 1)),l
 21 20,o 22 (.faddr 5 (.t 3)),n (.store 1 (.t 22) (.t 21))]) (.seq (.reg [o 23 (.faddr 6 (.t 1)),l 24 23,o 25 (.faddr 6 (.t 3)),n (.store 1 (.t 25) (.t 24))]) (.seq (.reg [o 26
 (.load true 7 (.t 3)),n (.store 7 (.t 2) (.t 26))]) (.ret))))))))))
theorem ok18:K5 Tryz.prog 18 ir18 1 [.c 2 true 7]=true:=by kernel_rfl
def ir20:PC:=.seq (.reg [o 2 (.box (.t 0)),o 3 (.box (.t 1)),o 4 (.mov F)]) (.seq (.seq (.reg [o 5 (.faddr 0 (.t 2)),l 6 5,o 7 (.faddr 0 (.t 3)),l 8 7,o 9 (.bin .neq (.t
 6) (.t 8))]) (.cond (.t 9) (.seq (.reg [o 4 (.mov F)]) (.ret)) (.skip))) (.seq (.seq (.reg [o 10 (.faddr 1 (.t 2)),l 11 10,o 12 (.faddr 1 (.t 3)),l 13 12,o 14 (.bin .neq (.t
 11) (.t 13))]) (.cond (.t 14) (.seq (.reg [o 4 (.mov F)]) (.ret)) (.skip))) (.seq (.seq (.reg [o 15 (.faddr 2 (.t 2)),l 16 15,o 17 (.faddr 2 (.t 3)),l 18 17,o 19 (.bin .neq (.t
 16) (.t 18))]) (.cond (.t 19) (.seq (.reg [o 4 (.mov F)]) (.ret)) (.skip))) (.seq (.seq (.reg [o 20 (.faddr 3 (.t 2)),l 21 20,o 22 (.faddr 3 (.t 3)),l 23 22,o 24 (.bin .neq (.t
 21) (.t 23))]) (.cond (.t 24) (.seq (.reg [o 4 (.mov F)]) (.ret)) (.skip))) (.seq (.seq (.reg [o 25 (.faddr 4 (.t 2)),l 26 25,o 27 (.faddr 4 (.t 3)),l 28 27,o 29 (.call 68 [.t
 26,.t 28]),o 30 (.un .not (.t 29))]) (.cond (.t 30) (.seq (.reg [o 4 (.mov F)]) (.ret)) (.skip))) (.seq (.seq (.reg [o 31 (.faddr 5 (.t 2)),l 32 31,o 33 (.faddr 5 (.t 3)),l 34
 33,o 35 (.bin .neq (.t 32) (.t 34))]) (.cond (.t 35) (.seq (.reg [o 4 (.mov F)]) (.ret)) (.skip))) (.seq (.seq (.reg [o 36 (.faddr 6 (.t 2)),l 37 36,o 38 (.faddr 6 (.t 3)),l 39
 38,o 40 (.eqb true (.t 37) (.t 39))]) (.cond (.t 40) (.seq (.reg [o 4 (.mov F)]) (.ret)) (.skip))) (.seq (.reg [o 4 (.mov T)]) (.ret)))))))))
theorem ok20:K5 Tryz.prog 20 ir20 2 [.t 4]=true:=by kernel_rfl
end Go.Proofs
end
section
namespace Go.Proofs
open Go.PW Go.PW.I
def ir128:PC:=.seq (.reg [o 4 (.mov (i 0))]) (.seq (.seq (.reg [m 6 0,o 7 (.len (.t 6)),o 8 (.mov (i 0))]) (.block 0 (.loop (.ghost (.seq (.reg [o 9 (.bin .lss (.t 8) (.t
 7))]) (.seq (.cond (.t 9) (.skip) (.exit 0)) (.seq (.block 1 (.seq (.reg [m 10 8,m 5 10]) (.seq (.reg [m 11 1,m 12 0,m 13 5,o 14 (.iaddr 1 (.t 12) (.t 13)),l 15 14,o 16 (.bin
 .eql (.t 11) (.t 15))]) (.cond (.t 16) (.seq (.reg [m 17 5,m 4 17]) (.ret)) (.skip))))) (.reg [o 18 (.bin .add (.t 8) (i 1)),m 8 18])))))))) (.seq (.reg [o 4 (.mov (i (-1)))])
 (.ret)))
theorem ok128:K5 Tryz.prog 128 ir128 2 [.t 4]=true:=by kernel_rfl
end Go.Proofs
end
section
namespace Go.Proofs
open Go.PW Go.PW.I
def ir127:PC:=.seq (.reg [o 2 (.mov F)]) (.seq (.reg [m 3 0,o 4 (.call 106 [.t 3,.k (.val (.int .i64 200)),.k (.val (.int .i64 299))]),m 2 4]) (.ret))
theorem ok127:K5 Tryz.prog 127 ir127 1 [.t 2]=true:=by kernel_rfl
end Go.Proofs
end
section
namespace Go.Proofs
open Go.PW Go.PW.I
def ir63:PC:=.seq (.reg [o 2 (.mov (z #[]))]) (.seq (.seq (.reg [m 4 0,o 5 (.bin .leq (.t 4) (i 0))]) (.cond (.t 5) (.seq (.reg [o 2 (.mov (z #[109,48]))]) (.ret)) (.skip)))
 (.seq (.reg [o 3 (.mov (z #[]))]) (.seq (.block 0 (.loop (.ghost (.seq (.seq (.reg [m 6 0,o 7 (.bin .gtr (.t 6) (i 0))]) (.cond (.t 7) (.skip) (.exit 0))) (.block 1 (.seq (.reg [m
 8 0,o 9 (.bin .rem (.t 8) (i 10)),o 10 (.bin .add (i 48) (.t 9)),o 11 (.conv .u8 (.t 10)),o 12 (.lit 5 1 [.t 11]),o 13 (.tostr (.t 12)),m 14 3,o 15 (.bin .add (.t 13) (.t
 14)),m 3 15]) (.reg [m 16 0,o 17 (.bin .quo (.t 16) (i 10)),m 0 17]))))))) (.seq (.reg [m 18 3,o 19 (.bin .add (z #[109]) (.t 18)),m 2 19]) (.ret)))))
theorem ok63:K5 Tryz.prog 63 ir63 1 [.t 2]=true:=by kernel_rfl
def ir74_l6:PC:=.seq (.seq (.reg [m 6 5,m 7 0,o 8 (.len (.t 7)),o 9 (.bin .lss (.t 6) (.t 8))]) (.cond (.t 9) (.skip) (.exit 0))) (.seq (.block 1 (.seq (.reg [m 12 0,m 13 5,
 m 14 1,o 15 (.call 63 [.t 14]),o 16 (.iaddr 1 (.t 12) (.t 13)),n (.store 1 (.t 16) (.t 15))]) (.reg [m 17 1,o 18 (.bin .add (.t 17) (i 1)),m 1 18]))) (.reg [m 10 5,o 11 (.bin
 .add (.t 10) (i 1)),m 5 11]))
def ir74:PC:=.seq (.reg [o 4 (.mov (i 0))]) (.seq (.seq (.reg [o 5 (.mov (i 0))]) (.block 0 (.loop (.ghost ir74_l6)))) (.seq (.reg [m 19 1,m 4 19]) (.ret)))
theorem ok74:K5 Tryz.prog 74 ir74 2 [.t 4]=true:=by kernel_rfl
def ir69_l6:PC:=.seq (.seq (.reg [m 6 5,m 7 0,o 8 (.len (.t 7)),o 9 (.bin .lss (.t 6) (.t 8))]) (.cond (.t 9) (.skip) (.exit 0))) (.seq (.block 1 (.seq (.reg [m 12 0,m 13 5,
 m 14 1,o 15 (.iaddr 1 (.t 12) (.t 13)),n (.store 1 (.t 15) (.t 14))]) (.reg [m 16 1,o 17 (.bin .add (.t 16) (i 1)),m 1 17]))) (.reg [m 10 5,o 11 (.bin .add (.t 10) (i 1)),m 5
 11]))
def ir69:PC:=.seq (.reg [o 4 (.mov (i 0))]) (.seq (.seq (.reg [o 5 (.mov (i 0))]) (.block 0 (.loop (.ghost ir69_l6)))) (.seq (.reg [m 18 1,m 4 18]) (.ret)))
theorem ok69:K5 Tryz.prog 69 ir69 2 [.t 4]=true:=by kernel_rfl
def ir75_l6:PC:=.seq (.seq (.reg [m 6 5,m 7 0,o 8 (.len (.t 7)),o 9 (.bin .lss (.t 6) (.t 8))]) (.cond (.t 9) (.skip) (.exit 0))) (.seq (.block 1 (.seq (.seq (.reg [m 12 0,m
 13 5,o 14 (.iaddr 1 (.t 12) (.t 13)),l 15 14,m 16 1,o 17 (.bin .neq (.t 15) (.t 16))]) (.cond (.t 17) (.seq (.reg [o 4 (.mov (i (-1)))]) (.ret)) (.skip))) (.reg [m 18 1,o 19
 (.bin .add (.t 18) (i 1)),m 1 19]))) (.reg [m 10 5,o 11 (.bin .add (.t 10) (i 1)),m 5 11]))
def ir75:PC:=.seq (.reg [o 4 (.mov (i 0))]) (.seq (.seq (.reg [o 5 (.mov (i 0))]) (.block 0 (.loop (.ghost ir75_l6)))) (.seq (.reg [m 20 1,m 4 20]) (.ret)))
theorem ok75:K5 Tryz.prog 75 ir75 2 [.t 4]=true:=by kernel_rfl
def ir76_l6:PC:=.seq (.seq (.reg [m 6 5,m 7 0,o 8 (.len (.t 7)),o 9 (.bin .lss (.t 6) (.t 8))]) (.cond (.t 9) (.skip) (.exit 0))) (.seq (.block 1 (.seq (.seq (.draw [m 12 0,
 m 13 5,o 14 (.iaddr 1 (.t 12) (.t 13)),l 15 14,m 16 1,o 17 (.call 63 [.t 16])] [o 18 (.bin .neq (.t 15) (.t 17))]) (.cond (.t 18) (.seq (.reg [o 4 (.mov (i (-1)))]) (.ret))
 (.skip))) (.reg [m 19 1,o 20 (.bin .add (.t 19) (i 1)),m 1 20]))) (.reg [m 10 5,o 11 (.bin .add (.t 10) (i 1)),m 5 11]))
def ir76:PC:=.seq (.reg [o 4 (.mov (i 0))]) (.seq (.seq (.reg [o 5 (.mov (i 0))]) (.block 0 (.loop (.ghost ir76_l6)))) (.seq (.reg [m 21 1,m 4 21]) (.ret)))
theorem ok76:K5 Tryz.prog 76 ir76 2 [.t 4]=true:=by kernel_rfl
end Go.Proofs
end
section
namespace Go.Proofs
open Go.PW Go.PW.I
def ir65:PC:=.seq (.reg [o 4 (.mov F)]) (.seq (.seq (.reg [m 6 0,o 7 (.len (.t 6)),m 8 1,o 9 (.len (.t 8)),o 10 (.bin .neq (.t 7) (.t 9))]) (.cond (.t 10) (.seq (.reg [o 4
 (.mov F)]) (.ret)) (.skip))) (.seq (.seq (.reg [o 5 (.mov (i 0))]) (.block 0 (.loop (.ghost (.seq (.seq (.reg [m 11 5,m 12 0,o 13 (.len (.t 12)),o 14 (.bin .lss (.t 11) (.t
 13))]) (.cond (.t 14) (.skip) (.exit 0))) (.seq (.block 1 (.seq (.draw [m 17 0,m 18 5,o 19 (.iaddr 1 (.t 17) (.t 18)),l 20 19,m 21 1,m 22 5,o 23 (.iaddr 1 (.t 21) (.t 22)),l
 24 23] [o 25 (.bin .neq (.t 20) (.t 24))]) (.cond (.t 25) (.seq (.reg [o 4 (.mov F)]) (.ret)) (.skip)))) (.reg [m 15 5,o 16 (.bin .add (.t 15) (i 1)),m 5 16]))))))) (.seq (.reg
 [o 4 (.mov T)]) (.ret))))
theorem ok65:K5 Tryz.prog 65 ir65 2 [.t 4]=true:=by kernel_rfl
def ir67:PC:=.seq (.reg [o 4 (.mov F)]) (.seq (.seq (.reg [m 6 0,o 7 (.len (.t 6)),m 8 1,o 9 (.len (.t 8)),o 10 (.bin .neq (.t 7) (.t 9))]) (.cond (.t 10) (.seq (.reg [o 4
 (.mov F)]) (.ret)) (.skip))) (.seq (.seq (.reg [m 11 0,o 12 (.len (.t 11)),o 13 (.mov (i 0))]) (.block 0 (.loop (.ghost (.seq (.reg [o 14 (.bin .lss (.t 13) (.t 12))]) (.seq
 (.cond (.t 14) (.skip) (.exit 0)) (.seq (.block 1 (.seq (.reg [m 15 13,m 5 15]) (.seq (.draw [m 16 0,m 17 5,o 18 (.iaddr 1 (.t 16) (.t 17)),l 19 18,m 20 1,m 21 5,o 22
 (.iaddr 1 (.t 20) (.t 21)),l 23 22] [o 24 (.bin .neq (.t 19) (.t 23))]) (.cond (.t 24) (.seq (.reg [o 4 (.mov F)]) (.ret)) (.skip))))) (.reg [o 25 (.bin .add (.t 13) (i 1)),m 13
 25])))))))) (.seq (.reg [o 4 (.mov T)]) (.ret))))
theorem ok67:K5 Tryz.prog 67 ir67 2 [.t 4]=true:=by kernel_rfl
end Go.Proofs
end
section
namespace Go.Proofs
open Go.PW Go.PW.I
def ir224:PC:=.seq (.reg [o 2 (.mov (z #[]))]) (.seq (.reg [o 3 (.mov (z #[34]))]) (.seq (.seq (.reg [o 4 (.mov (i 0))]) (.block 0 (.loop (.ghost (.seq (.seq (.reg [m 6 4,m 7
 0,o 8 (.lens (.t 7)),o 9 (.bin .lss (.t 6) (.t 8))]) (.cond (.t 9) (.skip) (.exit 0))) (.seq (.block 1 (.seq (.reg [m 12 0,m 13 4,o 14 (.idx (.t 12) (.t 13)),m 5 14]) (.block
 2 (.seq (.reg [m 23 5,o 24 (.bin .eql (.t 23) (.k (.val (.int .u8 34)))),m 25 24,g 26 25 false (.mov (.t 5)),g 27 25 false (.bin .eql (.t 26) (.k (.val (.int .u8 92)))),o 28
 (.pick (.t 25) T (.t 27)),m 22 28]) (.cond (.t 22) (.reg [m 29 3,m 30 0,m 31 4,m 32 4,o 33 (.bin .add (.t 32) (i 1)),o 34 (.slc 0 (.t 30) (some (.t 31)) (some (.t 33))),o 35
 (.bin .add (z #[92]) (.t 34)),o 36 (.bin .add (.t 29) (.t 35)),m 3 36]) (.seq (.reg [m 38 5,o 39 (.bin .lss (.t 38) (.k (.val (.int .u8 32)))),m 40 39,g 41 40 false (.mov (.t
 5)),g 42 40 false (.bin .gtr (.t 41) (.k (.val (.int .u8 126)))),o 43 (.pick (.t 40) T (.t 42)),m 37 43]) (.cond (.t 37) (.draw [m 44 3,m 45 5,o 46 (.bin .quo (.t 45) (.k
 (.val (.int .u8 16)))),o 47 (.idx (z #[48,49,50,51,52,53,54,55,56,57,97,98,99,100,101,102]) (.t 46)),m 48 5,o 49 (.bin .rem (.t 48) (.k (.val (.int .u8 16)))),o
 50 (.idx (z #[48,49,50,51,52,53,54,55,56,57,97,98,99,100,101,102]) (.t 49)),o 51 (.lit 5 1 [.t 47,.t 50]),o 52 (.tostr (.t 51)),o 53 (.bin .add (z #[92,117,48,
 48]) (.t 52)),o 54 (.bin .add (.t 44) (.t 53))] [m 3 54]) (.reg [m 15 3,m 16 0,m 17 4,m 18 4,o 19 (.bin .add (.t 18) (i 1)),o 20 (.slc 0 (.t 16) (some (.t 17)) (some (.t
 19))),o 21 (.bin .add (.t 15) (.t 20)),m 3 21])))))))) (.reg [m 10 4,o 11 (.bin .add (.t 10) (i 1)),m 4 11]))))))) (.seq (.reg [m 55 3,o 56 (.bin .add (.t 55) (z #[34])),m 2
 56]) (.ret))))
theorem ok224:K5 Tryz.prog 224 ir224 1 [.t 2]=true:=by kernel_rfl
def ir121:PC:=.seq (.reg [o 2 (.mov (z #[]))]) (.seq (.reg [o 6 (.lit 5 1 [.k (.val (.int .u8 34))]),m 3 6]) (.seq (.seq (.reg [m 7 0,o 8 (.lens (.t 7)),o 9 (.mov (i 0))])
 (.block 0 (.loop (.ghost (.seq (.reg [o 10 (.bin .lss (.t 9) (.t 8))]) (.seq (.cond (.t 10) (.skip) (.exit 0)) (.seq (.block 1 (.seq (.reg [m 11 9,m 4 11]) (.seq (.reg [m 12 0,m
 13 4,o 14 (.idx (.t 12) (.t 13)),m 5 14]) (.block 2 (.seq (.reg [m 25 5,o 26 (.bin .eql (.t 25) (.k (.val (.int .u8 34)))),m 27 26,g 28 27 false (.mov (.t 5)),g 29 27 false
 (.bin .eql (.t 28) (.k (.val (.int .u8 92)))),o 30 (.pick (.t 27) T (.t 29)),m 24 30]) (.cond (.t 24) (.reg [m 31 3,m 32 5,o 33 (.lit 5 1 [.k (.val (.int .u8 92)),.t 32]),o
 34 (.app 5 1 1 (.t 31) (.t 33)),m 3 34]) (.seq (.reg [m 36 5,o 37 (.conv .i64 (.t 36)),o 38 (.call 106 [.t 37,.k (.val (.int .i64 32)),.k (.val (.int .i64 126))]),m 35 38])
 (.cond (.t 35) (.reg [m 39 3,m 40 5,o 41 (.lit 5 1 [.t 40]),o 42 (.app 5 1 1 (.t 39) (.t 41)),m 3 42]) (.draw [m 15 3,m 16 5,o 17 (.bin .quo (.t 16) (.k (.val (.int .u8
 16)))),o 18 (.idx (z #[48,49,50,51,52,53,54,55,56,57,97,98,99,100,101,102]) (.t 17)),m 19 5,o 20 (.bin .rem (.t 19) (.k (.val (.int .u8 16)))),o 21 (.idx (z
 #[48,49,50,51,52,53,54,55,56,57,97,98,99,100,101,102]) (.t 20)),o 22 (.lit 5 1 [.k (.val (.int .u8 92)),.k (.val (.int .u8 117)),.k (.val (.int .u8 48)),.k (.val
 (.int .u8 48)),.t 18,.t 21])] [o 23 (.app 5 1 1 (.t 15) (.t 22)),m 3 23]))))))))) (.reg [o 43 (.bin .add (.t 9) (i 1)),m 9 43])))))))) (.seq (.reg [m 44 3,o 45 (.lit 5 1 [.k
 (.val (.int .u8 34))]),o 46 (.app 5 1 1 (.t 44) (.t 45)),o 47 (.tostr (.t 46)),m 2 47]) (.ret))))
theorem ok121:K5 Tryz.prog 121 ir121 1 [.t 2]=true:=by kernel_rfl
def ir177_s49:PC:=.reg [m 49 3,o 50 (.faddr 4 (.t 1)),l 51 50,m 52 4,o 53 (.iaddr 5 (.t 51) (.t 52)),o 54 (.load true 5 (.t 53)),o 55 (.call 177 [.t 54]),o 56 (.bin .add
 (.t 49) (.t 55)),m 3 56]
def ir177_s37:PC:=.seq (.seq (.reg [o 37 (.faddr 0 (.t 1)),l 38 37,o 39 (.bin .eql (.t 38) (i 6))]) (.cond (.t 39) (.reg [m 40 3,o 41 (.faddr 3 (.t 1)),l 42 41,m 43 4,o 44
 (.iaddr 1 (.t 42) (.t 43)),l 45 44,o 46 (.call 224 [.t 45]),o 47 (.bin .add (.t 46) (z #[58])),o 48 (.bin .add (.t 40) (.t 47)),m 3 48]) (.skip))) (ir177_s49)
def ir177:PC:=.seq (.reg [o 1 (.box (.t 0)),o 2 (.mov (z #[]))]) (.seq (.seq (.reg [o 5 (.faddr 0 (.t 1)),l 6 5]) (.block 0 (.seq (.reg [o 8 (.bin .eql (.t 6) (i 1)),m 7 8])
 (.cond (.t 7) (.seq (.reg [o 2 (.mov (z #[110,117,108,108]))]) (.ret)) (.seq (.reg [o 10 (.bin .eql (.t 6) (i 2)),m 9 10]) (.cond (.t 9) (.seq (.reg [o 11 (.lit 9 1 [.k (.val
 (.str ⟨#[102,97,108,115,101]⟩)),.k (.val (.str ⟨#[116,114,117,101]⟩))]),o 12 (.faddr 1 (.t 1)),l 13 12,o 14 (.iaddr 1 (.t 11) (.t 13)),l 15 14,m 2 15]) (.ret)) (.seq
 (.reg [o 17 (.bin .eql (.t 6) (i 3)),m 16 17]) (.cond (.t 16) (.seq (.reg [o 18 (.faddr 1 (.t 1)),l 19 18,o 20 (.call 223 [.t 19]),m 2 20]) (.ret)) (.seq (.reg [o 22 (.bin .eql
 (.t 6) (i 4)),m 21 22]) (.cond (.t 21) (.seq (.reg [o 23 (.faddr 2 (.t 1)),l 24 23,o 25 (.call 224 [.t 24]),m 2 25]) (.ret)) (.skip))))))))))) (.seq (.reg [o 3 (.mov (z #[]))])
 (.seq (.seq (.reg [o 4 (.mov (i 0))]) (.block 1 (.loop (.ghost (.seq (.seq (.reg [m 26 4,o 27 (.faddr 4 (.t 1)),l 28 27,o 29 (.len (.t 28)),o 30 (.bin .lss (.t 26) (.t 29))])
 (.cond (.t 30) (.skip) (.exit 1))) (.seq (.block 2 (.seq (.seq (.reg [m 33 4,o 34 (.bin .gtr (.t 33) (i 0))]) (.cond (.t 34) (.reg [m 35 3,o 36 (.bin .add (.t 35) (z #[44])),m 3
 36]) (.skip))) (ir177_s37))) (.reg [m 31 4,o 32 (.bin .add (.t 31) (i 1)),m 4 32]))))))) (.seq (.seq (.reg [o 57 (.faddr 0 (.t 1)),l 58 57,o 59 (.bin .eql (.t 58) (i 5))])
 (.cond (.t 59) (.seq (.reg [m 60 3,o 61 (.bin .add (z #[91]) (.t 60)),o 62 (.bin .add (.t 61) (z #[93])),m 2 62]) (.ret)) (.skip))) (.seq (.reg [m 63 3,o 64 (.bin .add (z
 #[123]) (.t 63)),o 65 (.bin .add (.t 64) (z #[125])),m 2 65]) (.ret))))))
theorem ok177:K5 Tryz.prog 177 ir177 1 [.t 2]=true:=by kernel_rfl
def ir60_s53:PC:=.reg [m 53 3,m 54 6,o 55 (.lit 9 1 [.t 54]),o 56 (.app 9 1 16 (.t 53) (.t 55)),m 3 56]
def ir60_s41:PC:=.seq (.seq (.reg [o 41 (.faddr 0 (.t 1)),l 42 41,o 43 (.bin .eql (.t 42) (i 6))]) (.cond (.t 43) (.reg [o 44 (.faddr 3 (.t 1)),l 45 44,m 46 4,o 47 (.iaddr
 1 (.t 45) (.t 46)),l 48 47,o 49 (.call 121 [.t 48]),o 50 (.bin .add (.t 49) (z #[58])),m 51 6,o 52 (.bin .add (.t 50) (.t 51)),m 6 52]) (.skip))) (ir60_s53)
def ir60:PC:=.seq (.reg [o 1 (.box (.t 0)),o 2 (.mov (z #[]))]) (.seq (.seq (.reg [o 8 (.faddr 0 (.t 1)),l 9 8]) (.block 0 (.seq (.reg [o 11 (.bin .eql (.t 9) (i 2)),m 10
 11]) (.cond (.t 10) (.seq (.reg [o 12 (.lit 9 1 [.k (.val (.str ⟨#[102,97,108,115,101]⟩)),.k (.val (.str ⟨#[116,114,117,101]⟩))]),o 13 (.faddr 1 (.t 1)),l 14 13,o 15
 (.iaddr 1 (.t 12) (.t 14)),l 16 15,m 2 16]) (.ret)) (.seq (.reg [o 18 (.bin .eql (.t 9) (i 3)),m 17 18]) (.cond (.t 17) (.seq (.reg [o 19 (.faddr 1 (.t 1)),l 20 19,o 21 (.call
 120 [.t 20]),m 2 21]) (.ret)) (.seq (.reg [o 23 (.bin .eql (.t 9) (i 4)),m 22 23]) (.cond (.t 22) (.seq (.reg [o 24 (.faddr 2 (.t 1)),l 25 24,o 26 (.call 121 [.t 25]),m 2 26])
 (.ret)) (.seq (.seq (.reg [o 28 (.bin .eql (.t 9) (i 5)),m 27 28]) (.cond (.t 27) (.skip) (.reg [o 29 (.bin .eql (.t 9) (i 6)),m 27 29]))) (.cond (.t 27) (.seq (.reg [o 30 (.lit
 9 1 []),m 3 30]) (.seq (.seq (.reg [o 31 (.faddr 4 (.t 1)),l 32 31,o 33 (.len (.t 32)),o 34 (.mov (i 0))]) (.block 1 (.loop (.ghost (.seq (.reg [o 35 (.bin .lss (.t 34) (.t
 33))]) (.seq (.cond (.t 35) (.skip) (.exit 1)) (.seq (.block 2 (.seq (.reg [m 36 34,o 37 (.iaddr 5 (.t 32) (.t 34)),o 38 (.load true 5 (.t 37)),o 5 (.alloc [.val (.int .i64 0),
 .val (.int .i64 0),.val (.str ⟨#[]⟩),.emp 1,.emp 5]),m 4 36,n (.store 5 (.t 5) (.t 38))]) (.seq (.reg [o 39 (.load true 5 (.t 5)),o 40 (.call 60 [.t 39]),m 6 40])
 (ir60_s41)))) (.reg [o 57 (.bin .add (.t 34) (i 1)),m 34 57])))))))) (.seq (.reg [m 58 3,o 59 (.call 122 [.t 58,.k (.val (.str ⟨#[44]⟩))]),m 7 59]) (.seq (.reg [o 60 (.faddr 0
 (.t 1)),l 61 60,o 62 (.bin .eql (.t 61) (i 6))]) (.cond (.t 62) (.seq (.reg [m 63 7,o 64 (.bin .add (z #[123]) (.t 63)),o 65 (.bin .add (.t 64) (z #[125])),m 2 65]) (.ret))
 (.seq (.reg [m 66 7,o 67 (.bin .add (z #[91]) (.t 66)),o 68 (.bin .add (.t 67) (z #[93])),m 2 68]) (.ret))))))) (.skip))))))))))) (.seq (.reg [o 2 (.mov (z #[110,117,108,
 108]))]) (.ret)))
theorem ok60:K5 Tryz.prog 60 ir60 1 [.t 2]=true:=by kernel_rfl
end Go.Proofs
end
section
namespace Go.Proofs
open Go.PW Go.PW.I
def ir209:PC:=.seq (.reg [m 4 0,o 5 (.nilck (.t 4)),o 6 (.faddr 2 (.t 5)),l 7 6,o 8 (.bin .eql (.t 7) (i 0))]) (.cond (.t 8) (.reg [m 9 0,m 10 1,o 11 (.nilck (.t 9)),o 12
 (.faddr 2 (.t 11)),n (.store 1 (.t 12) (.t 10))]) (.skip))
theorem ok209:K5 Tryz.prog 209 ir209 2 []=true:=by kernel_rfl
def ir159:PC:=.block 0 (.loop (.ghost (.seq (.seq (.draw [m 2 0,o 3 (.nilck (.t 2)),o 4 (.faddr 1 (.t 3)),l 5 4,m 6 0,o 7 (.nilck (.t 6)),o 8 (.faddr 0 (.t 7)),l 9 8,o
 10 (.lens (.t 9)),o 11 (.bin .lss (.t 5) (.t 10)),m 12 11,g 13 12 true (.mov (.t 0)),g 14 12 true (.nilck (.t 13)),g 15 12 true (.faddr 0 (.t 14)),g 16 12 true (.load false 1
 (.t 15)),g 17 12 true (.mov (.t 0)),g 18 12 true (.nilck (.t 17)),g 19 12 true (.faddr 1 (.t 18)),g 20 12 true (.load false 1 (.t 19)),g 21 12 true (.idx (.t 16) (.t 20)),g
 22 12 true (.bin .eql (.t 21) (.k (.val (.int .u8 32)))),g 23 12 true (.mov (.t 22)),g 24 23 false (.mov (.t 0)),g 25 23 false (.nilck (.t 24)),g 26 23 false (.faddr 0 (.t
 25)),g 27 23 false (.load false 1 (.t 26)),g 28 23 false (.mov (.t 0)),g 29 23 false (.nilck (.t 28)),g 30 23 false (.faddr 1 (.t 29)),g 31 23 false (.load false 1 (.t 30)),g
 32 23 false (.idx (.t 27) (.t 31)),g 33 23 false (.bin .eql (.t 32) (.k (.val (.int .u8 9)))),g 34 12 true (.pick (.t 23) T (.t 33)),g 35 12 true (.mov (.t 34)),g 36 35 false
 (.mov (.t 0)),g 37 35 false (.nilck (.t 36)),g 38 35 false (.faddr 0 (.t 37)),g 39 35 false (.load false 1 (.t 38)),g 40 35 false (.mov (.t 0)),g 41 35 false (.nilck (.t 40)),
 g 42 35 false (.faddr 1 (.t 41)),g 43 35 false (.load false 1 (.t 42)),g 44 35 false (.idx (.t 39) (.t 43)),g 45 35 false (.bin .eql (.t 44) (.k (.val (.int .u8 10)))),g 46 12
 true (.pick (.t 35) T (.t 45)),g 47 12 true (.mov (.t 46)),g 48 47 false (.mov (.t 0)),g 49 47 false (.nilck (.t 48)),g 50 47 false (.faddr 0 (.t 49)),g 51 47 false (.load
 false 1 (.t 50)),g 52 47 false (.mov (.t 0)),g 53 47 false (.nilck (.t 52)),g 54 47 false (.faddr 1 (.t 53)),g 55 47 false (.load false 1 (.t 54)),g 56 47 false (.idx (.t 51)
 (.t 55)),g 57 47 false (.bin .eql (.t 56) (.k (.val (.int .u8 13)))),g 58 12 true (.pick (.t 47) T (.t 57)),o 59 (.pick (.t 12) (.t 58) F)] []) (.cond (.t 59) (.skip) (.exit
 0))) (.block 1 (.reg [m 60 0,o 61 (.nilck (.t 60)),o 62 (.faddr 1 (.t 61)),l 63 62,o 64 (.bin .add (.t 63) (i 1)),o 65 (.nilck (.t 60)),o 66 (.faddr 1 (.t 65)),n (.store 1
 (.t 66) (.t 64))])))))
theorem ok159:K5 Tryz.prog 159 ir159 1 []=true:=by kernel_rfl
def ir251:PC:=.seq (.reg [o 4 (.mov F)]) (.seq (.seq (.draw [m 5 0,o 6 (.nilck (.t 5)),o 7 (.faddr 2 (.t 6)),l 8 7,o 9 (.bin .neq (.t 8) (i 0)),m 10 9,g 11 10 false (.mov
 (.t 0)),g 12 10 false (.nilck (.t 11)),g 13 10 false (.faddr 1 (.t 12)),g 14 10 false (.load false 1 (.t 13)),g 15 10 false (.mov (.t 0)),g 16 10 false (.nilck (.t 15)),g 17
 10 false (.faddr 0 (.t 16)),g 18 10 false (.load false 1 (.t 17)),g 19 10 false (.lens (.t 18)),g 20 10 false (.bin .eql (.t 14) (.t 19)),o 21 (.pick (.t 10) T (.t 20)),m 22
 21,g 23 22 false (.mov (.t 0)),g 24 22 false (.nilck (.t 23)),g 25 22 false (.faddr 0 (.t 24)),g 26 22 false (.load false 1 (.t 25)),g 27 22 false (.mov (.t 0)),g 28 22 false
 (.nilck (.t 27)),g 29 22 false (.faddr 1 (.t 28)),g 30 22 false (.load false 1 (.t 29)),g 31 22 false (.idx (.t 26) (.t 30)),g 32 22 false (.mov (.t 1)),g 33 22 false (.bin
 .neq (.t 31) (.t 32)),o 34 (.pick (.t 22) T (.t 33))] []) (.cond (.t 34) (.seq (.reg [o 4 (.mov F)]) (.ret)) (.skip))) (.seq (.reg [m 35 0,o 36 (.nilck (.t 35)),o 37 (.faddr 1
 (.t 36)),l 38 37,o 39 (.bin .add (.t 38) (i 1)),o 40 (.nilck (.t 35)),o 41 (.faddr 1 (.t 40)),n (.store 1 (.t 41) (.t 39))]) (.seq (.reg [o 4 (.mov T)]) (.ret))))
theorem ok251:K5 Tryz.prog 251 ir251 2 [.t 4]=true:=by kernel_rfl
def ir210:PC:=.seq (.seq (.draw [m 4 0,o 5 (.nilck (.t 4)),o 6 (.faddr 1 (.t 5)),l 7 6,m 8 1,o 9 (.lens (.t 8)),o 10 (.bin .add (.t 7) (.t 9)),m 11 0,o 12 (.nilck (.t
 11)),o 13 (.faddr 0 (.t 12)),l 14 13,o 15 (.lens (.t 14)),o 16 (.bin .gtr (.t 10) (.t 15)),m 17 16,g 18 17 false (.mov (.t 0)),g 19 17 false (.nilck (.t 18)),g 20 17 false
 (.faddr 0 (.t 19)),g 21 17 false (.load false 1 (.t 20)),g 22 17 false (.mov (.t 0)),g 23 17 false (.nilck (.t 22)),g 24 17 false (.faddr 1 (.t 23)),g 25 17 false (.load false
 1 (.t 24)),g 26 17 false (.mov (.t 0)),g 27 17 false (.nilck (.t 26)),g 28 17 false (.faddr 1 (.t 27)),g 29 17 false (.load false 1 (.t 28)),g 30 17 false (.mov (.t 1)),g 31
 17 false (.lens (.t 30)),g 32 17 false (.bin .add (.t 29) (.t 31)),g 33 17 false (.slc 0 (.t 21) (some (.t 25)) (some (.t 32))),g 34 17 false (.mov (.t 1)),g 35 17 false (.bin
 .neq (.t 33) (.t 34)),o 36 (.pick (.t 17) T (.t 35))] []) (.cond (.t 36) (.seq (.reg [m 37 0,o 38 (.call 209 [.t 37,.k (.val (.int .i64 3))])]) (.ret)) (.skip))) (.reg [m 39 0,
 o 40 (.nilck (.t 39)),o 41 (.faddr 1 (.t 40)),l 42 41,m 43 1,o 44 (.lens (.t 43)),o 45 (.bin .add (.t 42) (.t 44)),o 46 (.nilck (.t 39)),o 47 (.faddr 1 (.t 46)),n (.store 1
 (.t 47) (.t 45))])
theorem ok210:K5 Tryz.prog 210 ir210 2 []=true:=by kernel_rfl
def ir278:PC:=.seq (.reg [o 2 (.mov (i 0))]) (.seq (.block 0 (.seq (.reg [m 4 0,o 5 (.call 215 [.t 4]),m 3 5]) (.cond (.t 3) (.seq (.reg [m 6 0,o 7 (.conv .i64 (.t 6)),o 8
 (.bin .sub (.t 7) (i 48)),m 2 8]) (.ret)) (.seq (.reg [m 10 0,o 11 (.bin .geq (.t 10) (.k (.val (.int .u8 97)))),m 12 11,g 13 12 true (.mov (.t 0)),g 14 12 true (.bin .leq (.t
 13) (.k (.val (.int .u8 102)))),o 15 (.pick (.t 12) (.t 14) F),m 9 15]) (.cond (.t 9) (.seq (.reg [m 16 0,o 17 (.conv .i64 (.t 16)),o 18 (.bin .sub (.t 17) (i 87)),m 2 18])
 (.ret)) (.seq (.reg [m 20 0,o 21 (.bin .geq (.t 20) (.k (.val (.int .u8 65)))),m 22 21,g 23 22 true (.mov (.t 0)),g 24 22 true (.bin .leq (.t 23) (.k (.val (.int .u8 70)))),o
 25 (.pick (.t 22) (.t 24) F),m 19 25]) (.cond (.t 19) (.seq (.reg [m 26 0,o 27 (.conv .i64 (.t 26)),o 28 (.bin .sub (.t 27) (i 55)),m 2 28]) (.ret)) (.skip)))))))) (.seq (.reg
 [o 2 (.mov (i (-1)))]) (.ret)))
theorem ok278:K5 Tryz.prog 278 ir278 1 [.t 2]=true:=by kernel_rfl
def ir252:PC:=.seq (.reg [o 2 (.mov (i 0))]) (.seq (.seq (.draw [m 7 0,o 8 (.nilck (.t 7)),o 9 (.faddr 1 (.t 8)),l 10 9,m 11 0,o 12 (.nilck (.t 11)),o 13 (.faddr 0 (.t
 12)),l 14 13,o 15 (.lens (.t 14)),o 16 (.bin .eql (.t 10) (.t 15))] []) (.cond (.t 16) (.seq (.reg [o 2 (.mov (i (-1)))]) (.ret)) (.skip))) (.seq (.draw [m 17 0,o 18 (.nilck
 (.t 17)),o 19 (.faddr 0 (.t 18)),l 20 19,m 21 0,o 22 (.nilck (.t 21)),o 23 (.faddr 1 (.t 22)),l 24 23] [o 25 (.idx (.t 20) (.t 24)),m 3 25]) (.seq (.reg [m 26 0,o 27
 (.nilck (.t 26)),o 28 (.faddr 1 (.t 27)),l 29 28,o 30 (.bin .add (.t 29) (i 1)),o 31 (.nilck (.t 26)),o 32 (.faddr 1 (.t 31)),n (.store 1 (.t 32) (.t 30))]) (.seq (.seq (.reg
 [m 33 3,o 34 (.call 198 [.k (.val (.str ⟨#[34,92,47,98,102,110,114,116]⟩)),.t 33]),m 4 34]) (.seq (.reg [m 35 4,o 36 (.bin .lss (.t 35) (i 8))]) (.cond (.t 36) (.seq
 (.reg [o 37 (.lit 3 1 [.k (.val (.int .i64 34)),.k (.val (.int .i64 92)),.k (.val (.int .i64 47)),.k (.val (.int .i64 8)),.k (.val (.int .i64 12)),.k (.val (.int .i64 10)),.k
 (.val (.int .i64 13)),.k (.val (.int .i64 9))]),m 38 4,o 39 (.iaddr 1 (.t 37) (.t 38)),l 40 39,m 2 40]) (.ret)) (.skip)))) (.seq (.seq (.draw [m 41 3,o 42 (.bin .neq (.t 41)
 (.k (.val (.int .u8 117)))),m 43 42,g 44 43 false (.mov (.t 0)),g 45 43 false (.nilck (.t 44)),g 46 43 false (.faddr 1 (.t 45)),g 47 43 false (.load false 1 (.t 46)),g 48 43
 false (.bin .add (.t 47) (i 4)),g 49 43 false (.mov (.t 0)),g 50 43 false (.nilck (.t 49)),g 51 43 false (.faddr 0 (.t 50)),g 52 43 false (.load false 1 (.t 51)),g 53 43 false
 (.lens (.t 52)),g 54 43 false (.bin .gtr (.t 48) (.t 53)),o 55 (.pick (.t 43) T (.t 54)),m 56 55,g 57 56 false (.mov (.t 0)),g 58 56 false (.nilck (.t 57)),g 59 56 false
 (.faddr 0 (.t 58)),g 60 56 false (.load false 1 (.t 59)),g 61 56 false (.mov (.t 0)),g 62 56 false (.nilck (.t 61)),g 63 56 false (.faddr 1 (.t 62)),g 64 56 false (.load false
 1 (.t 63)),g 65 56 false (.mov (.t 0)),g 66 56 false (.nilck (.t 65)),g 67 56 false (.faddr 1 (.t 66)),g 68 56 false (.load false 1 (.t 67)),g 69 56 false (.bin .add (.t 68)
 (i 2)),g 70 56 false (.slc 0 (.t 60) (some (.t 64)) (some (.t 69))),g 71 56 false (.bin .neq (.t 70) (z #[48,48])),o 72 (.pick (.t 56) T (.t 71))] []) (.cond (.t 72) (.seq
 (.reg [o 2 (.mov (i (-1)))]) (.ret)) (.skip))) (.seq (.draw [m 73 0,o 74 (.nilck (.t 73)),o 75 (.faddr 0 (.t 74)),l 76 75,m 77 0,o 78 (.nilck (.t 77)),o 79 (.faddr 1 (.t
 78)),l 80 79,o 81 (.bin .add (.t 80) (i 2)),o 82 (.idx (.t 76) (.t 81)),o 83 (.call 278 [.t 82])] [m 5 83]) (.seq (.draw [m 84 0,o 85 (.nilck (.t 84)),o 86 (.faddr 0 (.t
 85)),l 87 86,m 88 0,o 89 (.nilck (.t 88)),o 90 (.faddr 1 (.t 89)),l 91 90,o 92 (.bin .add (.t 91) (i 3)),o 93 (.idx (.t 87) (.t 92)),o 94 (.call 278 [.t 93])] [m 6 94])
 (.seq (.reg [m 95 0,o 96 (.nilck (.t 95)),o 97 (.faddr 1 (.t 96)),l 98 97,o 99 (.bin .add (.t 98) (i 4)),o 100 (.nilck (.t 95)),o 101 (.faddr 1 (.t 100)),n (.store 1 (.t
 101) (.t 99))]) (.seq (.seq (.reg [m 102 5,o 103 (.bin .lss (.t 102) (i 0)),m 104 103,g 105 104 false (.mov (.t 6)),g 106 104 false (.bin .lss (.t 105) (i 0)),o 107 (.pick (.t
 104) T (.t 106))]) (.cond (.t 107) (.seq (.reg [o 2 (.mov (i (-1)))]) (.ret)) (.skip))) (.seq (.reg [m 108 5,o 109 (.bin .mul (i 16) (.t 108)),m 110 6,o 111 (.bin .add (.t 109)
 (.t 110)),m 2 111]) (.ret)))))))))))
theorem ok252:K5 Tryz.prog 252 ir252 1 [.t 2]=true:=by kernel_rfl
def ir211:PC:=.seq (.reg [o 2 (.mov (z #[]))]) (.seq (.reg [o 5 (.lit 5 1 []),m 3 5]) (.seq (.seq (.reg [m 6 0,o 7 (.call 251 [.t 6,.k (.val (.int .u8 34))]),o 8 (.un .not
 (.t 7))]) (.cond (.t 8) (.seq (.reg [m 9 0,o 10 (.call 209 [.t 9,.k (.val (.int .i64 3))])]) (.seq (.reg [o 2 (.mov (z #[]))]) (.ret))) (.skip))) (.seq (.block 0 (.loop (.ghost
 (.seq (.seq (.draw [m 11 0,o 12 (.nilck (.t 11)),o 13 (.faddr 1 (.t 12)),l 14 13,m 15 0,o 16 (.nilck (.t 15)),o 17 (.faddr 0 (.t 16)),l 18 17,o 19 (.lens (.t 18)),o 20
 (.bin .lss (.t 14) (.t 19))] []) (.cond (.t 20) (.skip) (.exit 0))) (.block 1 (.seq (.draw [m 21 0,o 22 (.nilck (.t 21)),o 23 (.faddr 0 (.t 22)),l 24 23,m 25 0,o 26 (.nilck
 (.t 25)),o 27 (.faddr 1 (.t 26)),l 28 27,o 29 (.idx (.t 24) (.t 28)),o 30 (.conv .i64 (.t 29))] [m 4 30]) (.seq (.reg [m 31 0,o 32 (.nilck (.t 31)),o 33 (.faddr 1 (.t 32)),l
 34 33,o 35 (.bin .add (.t 34) (i 1)),o 36 (.nilck (.t 31)),o 37 (.faddr 1 (.t 36)),n (.store 1 (.t 37) (.t 35))]) (.seq (.seq (.reg [m 38 4,o 39 (.bin .eql (.t 38) (i 34))])
 (.cond (.t 39) (.seq (.seq (.reg [m 40 3,o 41 (.len (.t 40)),o 42 (.bin .gtr (.t 41) (i 120))]) (.cond (.t 42) (.reg [m 43 0,o 44 (.call 209 [.t 43,.k (.val (.int .i64 8))])])
 (.skip))) (.seq (.reg [m 45 3,o 46 (.tostr (.t 45)),m 2 46]) (.ret))) (.skip))) (.seq (.seq (.reg [m 47 4,o 48 (.bin .eql (.t 47) (i 92))]) (.cond (.t 48) (.reg [m 49 0,o 50
 (.call 252 [.t 49]),m 4 50]) (.seq (.reg [m 51 4,o 52 (.bin .lss (.t 51) (i 32)),m 53 52,g 54 53 false (.mov (.t 4)),g 55 53 false (.bin .gtr (.t 54) (i 126)),o 56 (.pick (.t
 53) T (.t 55))]) (.cond (.t 56) (.reg [o 4 (.mov (i (-1)))]) (.skip))))) (.seq (.seq (.reg [m 57 4,o 58 (.bin .lss (.t 57) (i 0))]) (.cond (.t 58) (.exit 0) (.skip))) (.reg [m 59
 3,m 60 4,o 61 (.conv .u8 (.t 60)),o 62 (.lit 5 1 [.t 61]),o 63 (.app 5 1 1 (.t 59) (.t 62)),m 3 63]))))))))))) (.seq (.reg [m 64 0,o 65 (.call 209 [.t 64,.k (.val (.int .i64
 3))])]) (.seq (.reg [o 2 (.mov (z #[]))]) (.ret))))))
theorem ok211:K5 Tryz.prog 211 ir211 1 [.t 2]=true:=by kernel_rfl
def ir213_from4:PC:=.seq (.draw [m 47 0,o 48 (.nilck (.t 47)),o 49 (.faddr 0 (.t 48)),l 50 49,m 51 0,o 52 (.nilck (.t 51)),o 53 (.faddr 1 (.t 52)),l 54 53,m 55 3,o 56
 (.slc 0 (.t 50) (some (.t 54)) (some (.t 55))),o 57 (.call 240 [.t 56]),m 46 57,o 58 (.ext 0 (.t 46)),o 59 (.ext 1 (.t 46)),m 4 58] [m 5 59]) (.seq (.seq (.reg [m 60 5,o 61
 (.un .not (.t 60))]) (.cond (.t 61) (.seq (.reg [m 62 0,o 63 (.call 209 [.t 62,.k (.val (.int .i64 3))])]) (.seq (.reg [o 2 (.mov (i 0))]) (.ret))) (.skip))) (.seq (.seq (.reg [m
 64 4,o 65 (.call 129 [.t 64,.k (.val (.int .i64 (-999999999))),.k (.val (.int .i64 999999999))]),o 66 (.un .not (.t 65))]) (.cond (.t 66) (.seq (.reg [m 67 0,o 68 (.call 209
 [.t 67,.k (.val (.int .i64 4))])]) (.seq (.reg [o 2 (.mov (i 0))]) (.ret))) (.skip))) (.seq (.reg [m 69 0,m 70 3,o 71 (.nilck (.t 69)),o 72 (.faddr 1 (.t 71)),n (.store 1 (.t
 72) (.t 70))]) (.seq (.reg [m 73 4,m 2 73]) (.ret)))))
def ir213_from3:PC:=.seq (.block 0 (.loop (.ghost (.seq (.seq (.reg [m 28 3,m 29 0,o 30 (.nilck (.t 29)),o 31 (.faddr 0 (.t 30)),l 32 31,o 33 (.lens (.t 32)),o 34 (.bin
 .lss (.t 28) (.t 33)),m 35 34,g 36 35 true (.mov (.t 0)),g 37 35 true (.nilck (.t 36)),g 38 35 true (.faddr 0 (.t 37)),g 39 35 true (.load false 1 (.t 38)),g 40 35 true (.mov
 (.t 3)),g 41 35 true (.idx (.t 39) (.t 40)),g 42 35 true (.call 215 [.t 41]),o 43 (.pick (.t 35) (.t 42) F)]) (.cond (.t 43) (.skip) (.exit 0))) (.block 1 (.reg [m 44 3,o 45
 (.bin .add (.t 44) (i 1)),m 3 45])))))) (ir213_from4)
def ir213:PC:=.seq (.reg [o 2 (.mov (i 0))]) (.seq (.reg [m 6 0,o 7 (.nilck (.t 6)),o 8 (.faddr 1 (.t 7)),l 9 8,m 3 9]) (.seq (.seq (.reg [m 10 3,m 11 0,o 12 (.nilck (.t
 11)),o 13 (.faddr 0 (.t 12)),l 14 13,o 15 (.lens (.t 14)),o 16 (.bin .lss (.t 10) (.t 15)),m 17 16,g 18 17 true (.mov (.t 0)),g 19 17 true (.nilck (.t 18)),g 20 17 true
 (.faddr 0 (.t 19)),g 21 17 true (.load false 1 (.t 20)),g 22 17 true (.mov (.t 3)),g 23 17 true (.idx (.t 21) (.t 22)),g 24 17 true (.bin .eql (.t 23) (.k (.val (.int .u8
 45)))),o 25 (.pick (.t 17) (.t 24) F)]) (.cond (.t 25) (.reg [m 26 3,o 27 (.bin .add (.t 26) (i 1)),m 3 27]) (.skip))) (ir213_from3)))
theorem ok213:K5 Tryz.prog 213 ir213 1 [.t 2]=true:=by kernel_rfl
def ir158:PC:=.seq (.reg [o 4 (.alloc [.val (.int .i64 0),.val (.int .i64 0),.val (.str ⟨#[]⟩),.emp 1,.emp 5])]) (.seq (.reg [o 7 (.lit 9 1 []),o 8 (.lit 81 5 []),o 9
 (.build [.val (.int .i64 0),.val (.int .i64 0),.val (.str ⟨#[]⟩),.emp 1,.emp 5] [(3,1,.t 7),(4,1,.t 8)]),o 5 (.alloc [.val (.int .i64 0),.val (.int .i64 0),.val (.str
 ⟨#[]⟩),.emp 1,.emp 5]),n (.store 5 (.t 5) (.t 9))]) (.seq (.reg [m 10 0,o 11 (.call 159 [.t 10])]) (.seq (.seq (.draw [m 12 0,o 13 (.nilck (.t 12)),o 14 (.faddr 1 (.t 13)),l
 15 14,m 16 0,o 17 (.nilck (.t 16)),o 18 (.faddr 0 (.t 17)),l 19 18,o 20 (.lens (.t 19)),o 21 (.bin .eql (.t 15) (.t 20))] []) (.cond (.t 21) (.seq (.reg [m 22 0,o 23 (.call
 209 [.t 22,.k (.val (.int .i64 3))])]) (.seq (.reg [o 24 (.load true 5 (.t 5)),n (.store 5 (.t 4) (.t 24))]) (.ret))) (.skip))) (.seq (.seq (.draw [m 25 0,o 26 (.nilck (.t 25)),
 o 27 (.faddr 0 (.t 26)),l 28 27,m 29 0,o 30 (.nilck (.t 29)),o 31 (.faddr 1 (.t 30)),l 32 31] [o 33 (.idx (.t 28) (.t 32)),m 6 33]) (.seq (.reg [m 34 6]) (.block 0 (.seq
 (.reg [o 40 (.bin .eql (.t 34) (.k (.val (.int .u8 110)))),m 39 40]) (.cond (.t 39) (.seq (.reg [o 41 (.faddr 0 (.t 5)),n (.store 1 (.t 41) (i 1))]) (.reg [m 42 0,o 43 (.call
 210 [.t 42,.k (.val (.str ⟨#[110,117,108,108]⟩))])])) (.seq (.reg [o 45 (.bin .eql (.t 34) (.k (.val (.int .u8 116)))),m 44 45]) (.cond (.t 44) (.seq (.reg [o 46 (.faddr 0 (.t
 5)),n (.store 1 (.t 46) (i 2))]) (.seq (.reg [o 47 (.faddr 1 (.t 5)),n (.store 1 (.t 47) (i 1))]) (.reg [m 48 0,o 49 (.call 210 [.t 48,.k (.val (.str ⟨#[116,114,117,
 101]⟩))])]))) (.seq (.reg [o 51 (.bin .eql (.t 34) (.k (.val (.int .u8 102)))),m 50 51]) (.cond (.t 50) (.seq (.reg [o 52 (.faddr 0 (.t 5)),n (.store 1 (.t 52) (i 2))]) (.reg [m
 53 0,o 54 (.call 210 [.t 53,.k (.val (.str ⟨#[102,97,108,115,101]⟩))])])) (.seq (.reg [o 56 (.bin .eql (.t 34) (.k (.val (.int .u8 34)))),m 55 56]) (.cond (.t 55) (.seq
 (.reg [o 57 (.faddr 0 (.t 5)),n (.store 1 (.t 57) (i 4))]) (.reg [m 58 0,o 59 (.call 211 [.t 58]),o 60 (.faddr 2 (.t 5)),n (.store 1 (.t 60) (.t 59))])) (.seq (.reg [o 62 (.bin
 .eql (.t 34) (.k (.val (.int .u8 91)))),m 61 62]) (.cond (.t 61) (.seq (.reg [o 63 (.faddr 0 (.t 5)),n (.store 1 (.t 63) (i 5))]) (.reg [m 64 0,m 65 1,o 66 (.call 212 [.t 64,
 .t 5,.k (.val (.int .u8 93)),.t 65])])) (.seq (.reg [o 68 (.bin .eql (.t 34) (.k (.val (.int .u8 123)))),m 67 68]) (.cond (.t 67) (.seq (.reg [o 69 (.faddr 0 (.t 5)),n (.store
 1 (.t 69) (i 6))]) (.reg [m 70 0,m 71 1,o 72 (.call 212 [.t 70,.t 5,.k (.val (.int .u8 125)),.t 71])])) (.seq (.reg [o 35 (.faddr 0 (.t 5)),n (.store 1 (.t 35) (i 3))]) (.reg
 [m 36 0,o 37 (.call 213 [.t 36]),o 38 (.faddr 1 (.t 5)),n (.store 1 (.t 38) (.t 37))]))))))))))))))))) (.seq (.reg [o 73 (.load true 5 (.t 5)),n (.store 5 (.t 4) (.t 73))])
 (.ret))))))
theorem ok158:K5 Tryz.prog 158 ir158 2 [.c 4 true 5]=true:=by kernel_rfl
def ir212:PC:=.seq (.seq (.reg [m 8 3,o 9 (.bin .eql (.t 8) (i 1))]) (.cond (.t 9) (.seq (.reg [m 10 0,o 11 (.call 209 [.t 10,.k (.val (.int .i64 12))])]) (.ret)) (.skip)))
 (.reg [m 12 0,m 13 1,m 14 2,m 15 3,o 16 (.call 253 [.t 12,.t 13,.t 14,.t 15])])
theorem ok212:K5 Tryz.prog 212 ir212 4 []=true:=by kernel_rfl
def ir253_s44:PC:=.seq (.reg [m 44 0,o 45 (.call 159 [.t 44])]) (.seq (.seq (.reg [m 46 0,o 47 (.call 251 [.t 46,.k (.val (.int .u8 58))]),o 48 (.un .not (.t 47))]) (.cond
 (.t 48) (.reg [m 49 0,o 50 (.call 209 [.t 49,.k (.val (.int .i64 3))])]) (.skip))) (.reg [m 51 1,m 52 1,o 53 (.nilck (.t 52)),o 54 (.faddr 3 (.t 53)),l 55 54,m 56 8,o 57
 (.lit 9 1 [.t 56]),o 58 (.app 9 1 16 (.t 55) (.t 57)),o 59 (.nilck (.t 51)),o 60 (.faddr 3 (.t 59)),n (.store 1 (.t 60) (.t 58))]))
def ir253_s34:PC:=.seq (.reg [m 34 0,o 35 (.call 211 [.t 34]),m 8 35]) (.seq (.seq (.reg [m 36 1,o 37 (.nilck (.t 36)),o 38 (.faddr 3 (.t 37)),l 39 38,m 40 8,o 41 (.call
 192 [.t 39,.t 40])]) (.cond (.t 41) (.reg [m 42 0,o 43 (.call 209 [.t 42,.k (.val (.int .i64 13))])]) (.skip))) (ir253_s44))
def ir253_s81:PC:=.seq (.seq (.reg [m 81 1,o 82 (.nilck (.t 81)),o 83 (.faddr 4 (.t 82)),l 84 83,o 85 (.len (.t 84)),o 86 (.bin .gtr (.t 85) (i 12))]) (.cond (.t 86) (.reg
 [m 87 0,o 88 (.call 209 [.t 87,.k (.val (.int .i64 6))])]) (.skip))) (.seq (.reg [m 89 0,o 90 (.call 159 [.t 89])]) (.seq (.seq (.reg [m 91 0,m 92 2,o 93 (.call 251 [.t 91,.t
 92])]) (.cond (.t 93) (.ret) (.skip))) (.seq (.reg [m 94 0,o 95 (.call 251 [.t 94,.k (.val (.int .u8 44))]),o 96 (.un .not (.t 95))]) (.cond (.t 96) (.reg [m 97 0,o 98 (.call
 209 [.t 97,.k (.val (.int .i64 3))])]) (.skip)))))
def ir253_s61:PC:=.seq (.seq (.reg [m 61 0,o 62 (.nilck (.t 61)),o 63 (.faddr 2 (.t 62)),l 64 63,o 65 (.bin .neq (.t 64) (i 0))]) (.cond (.t 65) (.ret) (.skip))) (.seq (.reg
 [m 66 0,m 67 3,o 68 (.bin .sub (.t 67) (i 1)),o 69 (.call 158 [.t 66,.t 68]),o 9 (.alloc [.val (.int .i64 0),.val (.int .i64 0),.val (.str ⟨#[]⟩),.emp 1,.emp 5]),n
 (.store 5 (.t 9) (.t 69))]) (.seq (.mix (.early 0 (m 70 1) (.early 1 (o 71 (.nilck (.t 70))) (.early 2 (o 72 (.faddr 4 (.t 71))) (.early 3 (l 73 72) (.early 4 (o 74 (.load true 5
 (.t 9))) (.early 5 (o 75 (.len (.t 73))) (.early 6 (o 76 (.lit 81 5 [.k (.agg [.val (.int .i64 0),.val (.int .i64 0),.val (.str ⟨#[]⟩),.emp 1,.emp 5])])) (.step 7 (o 77 (.app
 81 5 80 (.t 73) (.t 76))) [] (.early 8 (o 78 (.iaddr 5 (.t 77) (.t 75))) (.early 10 (o 79 (.nilck (.t 70))) (.early 11 (o 80 (.faddr 4 (.t 79))) (.alt 9 (n (.store 5 (.t 78) (.t
 74))) [10,11] (.step 12 (n (.store 1 (.t 80) (.t 77))) [] .done) (.alt 12 (n (.store 1 (.t 80) (.t 77))) [8] (.step 9 (n (.store 5 (.t 78) (.t 74))) [] .done) .stop))))))))))))))
 (ir253_s81)))
def ir253:PC:=.seq (.reg [m 10 0,o 11 (.nilck (.t 10)),o 12 (.faddr 1 (.t 11)),l 13 12,o 14 (.bin .add (.t 13) (i 1)),o 15 (.nilck (.t 10)),o 16 (.faddr 1 (.t 15)),n
 (.store 1 (.t 16) (.t 14))]) (.seq (.reg [m 17 0,o 18 (.call 159 [.t 17])]) (.seq (.seq (.reg [m 19 0,m 20 2,o 21 (.call 251 [.t 19,.t 20])]) (.cond (.t 21) (.ret) (.skip)))
 (.block 0 (.loop (.ghost (.seq (.seq (.reg [m 22 0,o 23 (.nilck (.t 22)),o 24 (.faddr 2 (.t 23)),l 25 24,o 26 (.bin .eql (.t 25) (i 0))]) (.cond (.t 26) (.skip) (.exit 0)))
 (.block 1 (.seq (.reg [m 27 0,o 28 (.call 159 [.t 27])]) (.seq (.seq (.reg [m 29 1,o 30 (.nilck (.t 29)),o 31 (.faddr 0 (.t 30)),l 32 31,o 33 (.bin .eql (.t 32) (i 6))])
 (.cond (.t 33) (ir253_s34) (.skip))) (ir253_s61))))))))))
theorem ok253:K5 Tryz.prog 253 ir253 4 []=true:=by kernel_rfl
def ir103:PC:=.seq (.reg [o 2 (.alloc [.val (.int .i64 0),.val (.int .i64 0),.val (.str ⟨#[]⟩),.emp 1,.emp 5]),o 3 (.mov (i 0))]) (.seq (.reg [m 6 0,o 7 (.build [.val
 (.str ⟨#[]⟩),.val (.int .i64 0),.val (.int .i64 0)] [(0,1,.t 6)]),o 8 (.box (.t 7)),m 4 8]) (.seq (.reg [m 9 4,o 10 (.call 158 [.t 9,.k (.val (.int .i64 5))]),o 5 (.alloc
 [.val (.int .i64 0),.val (.int .i64 0),.val (.str ⟨#[]⟩),.emp 1,.emp 5]),n (.store 5 (.t 5) (.t 10))]) (.seq (.reg [m 11 4,o 12 (.call 159 [.t 11])]) (.seq (.seq (.reg [m 13
 4,o 14 (.nilck (.t 13)),o 15 (.faddr 2 (.t 14)),l 16 15,o 17 (.bin .eql (.t 16) (i 0)),m 18 17,g 19 18 true (.mov (.t 4)),g 20 18 true (.nilck (.t 19)),g 21 18 true (.faddr
 1 (.t 20)),g 22 18 true (.load false 1 (.t 21)),g 23 18 true (.mov (.t 0)),g 24 18 true (.lens (.t 23)),g 25 18 true (.bin .neq (.t 22) (.t 24)),o 26 (.pick (.t 18) (.t 25)
 F)]) (.cond (.t 26) (.reg [m 27 4,o 28 (.nilck (.t 27)),o 29 (.faddr 2 (.t 28)),n (.store 1 (.t 29) (i 3))]) (.skip))) (.seq (.seq (.reg [m 30 4,o 31 (.nilck (.t 30)),o 32
 (.faddr 2 (.t 31)),l 33 32,o 34 (.bin .neq (.t 33) (i 0))]) (.cond (.t 34) (.seq (.any (.alt 0 (o 35 (.build [.val (.int .i64 0),.val (.int .i64 0),.val (.str ⟨#[]⟩),.emp 1,
 .emp 5] [])) (.alt 1 (m 36 4) (.alt 2 (o 37 (.nilck (.t 36))) (.alt 3 (o 38 (.faddr 2 (.t 37))) (.alt 4 (l 39 38) (.alt 5 (n (.store 5 (.t 2) (.t 35))) (.alt 6 (m 3 39) .done
 .stop) .stop) (.alt 5 (n (.store 5 (.t 2) (.t 35))) (.alt 4 (l 39 38) (.alt 6 (m 3 39) .done .stop) .stop) .stop)) (.alt 5 (n (.store 5 (.t 2) (.t 35))) (.alt 3 (o 38 (.faddr 2 (.t
 37))) (.alt 4 (l 39 38) (.alt 6 (m 3 39) .done .stop) .stop) .stop) .stop)) (.alt 5 (n (.store 5 (.t 2) (.t 35))) (.alt 2 (o 37 (.nilck (.t 36))) (.alt 3 (o 38 (.faddr 2 (.t 37)))
 (.alt 4 (l 39 38) (.alt 6 (m 3 39) .done .stop) .stop) .stop) .stop) .stop)) (.alt 5 (n (.store 5 (.t 2) (.t 35))) (.alt 1 (m 36 4) (.alt 2 (o 37 (.nilck (.t 36))) (.alt 3 (o 38
 (.faddr 2 (.t 37))) (.alt 4 (l 39 38) (.alt 6 (m 3 39) .done .stop) .stop) .stop) .stop) .stop) .stop)) (.alt 1 (m 36 4) (.alt 0 (o 35 (.build [.val (.int .i64 0),.val (.int .i64
 0),.val (.str ⟨#[]⟩),.emp 1,.emp 5] [])) (.alt 2 (o 37 (.nilck (.t 36))) (.alt 3 (o 38 (.faddr 2 (.t 37))) (.alt 4 (l 39 38) (.alt 5 (n (.store 5 (.t 2) (.t 35))) (.alt 6 (m 3
 39) .done .stop) .stop) (.alt 5 (n (.store 5 (.t 2) (.t 35))) (.alt 4 (l 39 38) (.alt 6 (m 3 39) .done .stop) .stop) .stop)) (.alt 5 (n (.store 5 (.t 2) (.t 35))) (.alt 3 (o 38
 (.faddr 2 (.t 37))) (.alt 4 (l 39 38) (.alt 6 (m 3 39) .done .stop) .stop) .stop) .stop)) (.alt 5 (n (.store 5 (.t 2) (.t 35))) (.alt 2 (o 37 (.nilck (.t 36))) (.alt 3 (o 38
 (.faddr 2 (.t 37))) (.alt 4 (l 39 38) (.alt 6 (m 3 39) .done .stop) .stop) .stop) .stop) .stop)) (.alt 2 (o 37 (.nilck (.t 36))) (.alt 0 (o 35 (.build [.val (.int .i64 0),.val
 (.int .i64 0),.val (.str ⟨#[]⟩),.emp 1,.emp 5] [])) (.alt 3 (o 38 (.faddr 2 (.t 37))) (.alt 4 (l 39 38) (.alt 5 (n (.store 5 (.t 2) (.t 35))) (.alt 6 (m 3 39) .done .stop)
 .stop) (.alt 5 (n (.store 5 (.t 2) (.t 35))) (.alt 4 (l 39 38) (.alt 6 (m 3 39) .done .stop) .stop) .stop)) (.alt 5 (n (.store 5 (.t 2) (.t 35))) (.alt 3 (o 38 (.faddr 2 (.t 37)))
 (.alt 4 (l 39 38) (.alt 6 (m 3 39) .done .stop) .stop) .stop) .stop)) (.alt 3 (o 38 (.faddr 2 (.t 37))) (.alt 0 (o 35 (.build [.val (.int .i64 0),.val (.int .i64 0),.val (.str
 ⟨#[]⟩),.emp 1,.emp 5] [])) (.alt 4 (l 39 38) (.alt 5 (n (.store 5 (.t 2) (.t 35))) (.alt 6 (m 3 39) .done .stop) .stop) (.alt 5 (n (.store 5 (.t 2) (.t 35))) (.alt 4 (l 39 38)
 (.alt 6 (m 3 39) .done .stop) .stop) .stop)) (.alt 4 (l 39 38) (.alt 0 (o 35 (.build [.val (.int .i64 0),.val (.int .i64 0),.val (.str ⟨#[]⟩),.emp 1,.emp 5] [])) (.alt 5 (n
 (.store 5 (.t 2) (.t 35))) (.alt 6 (m 3 39) .done .stop) .stop) .stop) .stop)) .stop)) .stop)) .stop))) (.ret)) (.skip))) (.seq (.reg [o 40 (.load true 5 (.t 5)),n (.store 5 (.t
 2) (.t 40)),o 3 (.mov (i 0))]) (.ret)))))))
theorem ok103:K5 Tryz.prog 103 ir103 1 [.c 2 true 5,.t 3]=true:=by kernel_rfl
def ir182:PC:=.reg [m 4 1,o 5 (.ifc 191 (.t 4)),n (.pan (.t 5))]
theorem ok182:K5 Tryz.prog 182 ir182 2 []=true:=by kernel_rfl
def ir181:PC:=.block 0 (.loop (.ghost (.seq (.seq (.draw [m 2 0,o 3 (.nilck (.t 2)),o 4 (.faddr 1 (.t 3)),l 5 4,m 6 0,o 7 (.nilck (.t 6)),o 8 (.faddr 0 (.t 7)),l 9 8,o
 10 (.lens (.t 9)),o 11 (.bin .lss (.t 5) (.t 10)),m 12 11,g 13 12 true (.mov (.t 0)),g 14 12 true (.nilck (.t 13)),g 15 12 true (.faddr 0 (.t 14)),g 16 12 true (.load false 1
 (.t 15)),g 17 12 true (.mov (.t 0)),g 18 12 true (.nilck (.t 17)),g 19 12 true (.faddr 1 (.t 18)),g 20 12 true (.load false 1 (.t 19)),g 21 12 true (.idx (.t 16) (.t 20)),g
 22 12 true (.call 231 [.k (.val (.str ⟨#[32,9,10,13]⟩)),.t 21]),g 23 12 true (.bin .geq (.t 22) (i 0)),o 24 (.pick (.t 12) (.t 23) F)] []) (.cond (.t 24) (.skip) (.exit 0)))
 (.block 1 (.reg [m 25 0,o 26 (.nilck (.t 25)),o 27 (.faddr 1 (.t 26)),l 28 27,o 29 (.bin .add (.t 28) (i 1)),o 30 (.nilck (.t 25)),o 31 (.faddr 1 (.t 30)),n (.store 1 (.t
 31) (.t 29))])))))
theorem ok181:K5 Tryz.prog 181 ir181 1 []=true:=by kernel_rfl
def ir226:PC:=.seq (.reg [o 4 (.mov F)]) (.seq (.seq (.draw [m 5 0,o 6 (.nilck (.t 5)),o 7 (.faddr 0 (.t 6)),l 8 7,m 9 0,o 10 (.nilck (.t 9)),o 11 (.faddr 1 (.t 10)),l 12
 11,o 13 (.slc 0 (.t 8) (some (.t 12)) none),m 14 1,o 15 (.call 228 [.t 13,.t 14])] []) (.cond (.t 15) (.seq (.reg [m 16 0,o 17 (.nilck (.t 16)),o 18 (.faddr 1 (.t 17)),l 19
 18,m 20 1,o 21 (.lens (.t 20)),o 22 (.bin .add (.t 19) (.t 21)),o 23 (.nilck (.t 16)),o 24 (.faddr 1 (.t 23)),n (.store 1 (.t 24) (.t 22))]) (.seq (.reg [o 4 (.mov T)])
 (.ret))) (.skip))) (.seq (.reg [o 4 (.mov F)]) (.ret)))
theorem ok226:K5 Tryz.prog 226 ir226 2 [.t 4]=true:=by kernel_rfl
def ir256:PC:=.seq (.reg [m 4 0,m 5 1,o 6 (.call 226 [.t 4,.t 5]),o 7 (.un .not (.t 6))]) (.cond (.t 7) (.reg [m 8 0,o 9 (.call 182 [.t 8,.k (.val (.int .i64 3))])])
 (.skip))
theorem ok256:K5 Tryz.prog 256 ir256 2 []=true:=by kernel_rfl
def ir258:PC:=.seq (.reg [o 2 (.mov (.k (.val (.int .u8 0))))]) (.seq (.seq (.draw [m 3 0,o 4 (.nilck (.t 3)),o 5 (.faddr 1 (.t 4)),l 6 5,m 7 0,o 8 (.nilck (.t 7)),o 9
 (.faddr 0 (.t 8)),l 10 9,o 11 (.lens (.t 10)),o 12 (.bin .eql (.t 6) (.t 11))] []) (.cond (.t 12) (.reg [m 13 0,o 14 (.call 182 [.t 13,.k (.val (.int .i64 3))])]) (.skip)))
 (.seq (.reg [m 15 0,o 16 (.nilck (.t 15)),o 17 (.faddr 1 (.t 16)),l 18 17,o 19 (.bin .add (.t 18) (i 1)),o 20 (.nilck (.t 15)),o 21 (.faddr 1 (.t 20)),n (.store 1 (.t 21)
 (.t 19))]) (.seq (.draw [m 22 0,o 23 (.nilck (.t 22)),o 24 (.faddr 0 (.t 23)),l 25 24,m 26 0,o 27 (.nilck (.t 26)),o 28 (.faddr 1 (.t 27)),l 29 28,o 30 (.bin .sub (.t 29)
 (i 1)),o 31 (.idx (.t 25) (.t 30))] [m 2 31]) (.ret))))
theorem ok258:K5 Tryz.prog 258 ir258 1 [.t 2]=true:=by kernel_rfl
def ir259:PC:=.seq (.reg [o 2 (.mov (.k (.val (.int .u8 0))))]) (.seq (.reg [m 5 0,o 6 (.call 258 [.t 5]),m 3 6]) (.seq (.seq (.reg [m 7 3,o 8 (.conv .i64 (.t 7)),o 9 (.call
 106 [.t 8,.k (.val (.int .i64 65)),.k (.val (.int .i64 70))])]) (.cond (.t 9) (.reg [m 10 3,o 11 (.bin .add (.t 10) (.k (.val (.int .u8 32)))),m 3 11]) (.skip))) (.seq (.reg [m
 12 3,o 13 (.call 231 [.k (.val (.str ⟨#[48,49,50,51,52,53,54,55,56,57,97,98,99,100,101,102]⟩)),.t 12]),m 4 13]) (.seq (.seq (.reg [m 14 4,o 15 (.bin .lss (.t 14)
 (i 0))]) (.cond (.t 15) (.reg [m 16 0,o 17 (.call 182 [.t 16,.k (.val (.int .i64 3))])]) (.skip))) (.seq (.reg [m 18 4,o 19 (.conv .u8 (.t 18)),m 2 19]) (.ret))))))
theorem ok259:K5 Tryz.prog 259 ir259 1 [.t 2]=true:=by kernel_rfl
def ir229:PC:=.seq (.reg [o 2 (.mov (z #[]))]) (.seq (.reg [m 6 0,o 7 (.call 256 [.t 6,.k (.val (.str ⟨#[34]⟩))])]) (.seq (.reg [o 8 (.lit 5 1 []),m 3 8]) (.block 0 (.loop
 (.ghost (.block 1 (.seq (.reg [m 9 0,o 10 (.call 258 [.t 9]),m 4 10]) (.seq (.block 2 (.seq (.reg [m 12 4,o 13 (.bin .eql (.t 12) (.k (.val (.int .u8 34)))),m 11 13]) (.cond
 (.t 11) (.seq (.seq (.reg [m 14 3,o 15 (.len (.t 14)),o 16 (.bin .gtr (.t 15) (i 120))]) (.cond (.t 16) (.reg [m 17 0,o 18 (.call 182 [.t 17,.k (.val (.int .i64 8))])])
 (.skip))) (.seq (.reg [m 19 3,o 20 (.tostr (.t 19)),m 2 20]) (.ret))) (.seq (.reg [m 22 4,o 23 (.conv .i64 (.t 22)),o 24 (.call 106 [.t 23,.k (.val (.int .i64 32)),.k (.val
 (.int .i64 126))]),o 25 (.un .not (.t 24)),m 21 25]) (.cond (.t 21) (.reg [m 26 0,o 27 (.call 182 [.t 26,.k (.val (.int .i64 3))])]) (.seq (.reg [m 29 4,o 30 (.bin .eql (.t
 29) (.k (.val (.int .u8 92)))),m 28 30]) (.cond (.t 28) (.seq (.reg [m 31 0,o 32 (.call 258 [.t 31]),m 4 32]) (.seq (.reg [m 33 4,o 34 (.call 231 [.k (.val (.str ⟨#[98,102,
 110,114,116]⟩)),.t 33]),m 5 34]) (.seq (.reg [m 35 5,o 36 (.bin .geq (.t 35) (i 0))]) (.cond (.t 36) (.reg [m 37 5,o 38 (.idx (z #[8,12,10,13,9]) (.t 37)),m 4 38]) (.seq
 (.reg [m 39 4,o 40 (.bin .eql (.t 39) (.k (.val (.int .u8 117))))]) (.cond (.t 40) (.seq (.reg [m 41 0,o 42 (.call 256 [.t 41,.k (.val (.str ⟨#[48,48]⟩))])]) (.seq (.reg [m 43
 0,o 44 (.call 259 [.t 43]),o 45 (.bin .mul (.k (.val (.int .u8 16))) (.t 44)),m 4 45]) (.reg [m 46 4,m 47 0,o 48 (.call 259 [.t 47]),o 49 (.bin .add (.t 46) (.t 48)),m 4
 49]))) (.seq (.reg [m 50 4,o 51 (.bin .neq (.t 50) (.k (.val (.int .u8 34)))),m 52 51,g 53 52 true (.mov (.t 4)),g 54 52 true (.bin .neq (.t 53) (.k (.val (.int .u8 92)))),o
 55 (.pick (.t 52) (.t 54) F),m 56 55,g 57 56 true (.mov (.t 4)),g 58 56 true (.bin .neq (.t 57) (.k (.val (.int .u8 47)))),o 59 (.pick (.t 56) (.t 58) F)]) (.cond (.t 59) (.reg
 [m 60 0,o 61 (.call 182 [.t 60,.k (.val (.int .i64 3))])]) (.skip))))))))) (.skip)))))))) (.reg [m 62 3,m 63 4,o 64 (.lit 5 1 [.t 63]),o 65 (.app 5 1 1 (.t 62) (.t 64)),m 3
 65])))))))))
theorem ok229:K5 Tryz.prog 229 ir229 1 [.t 2]=true:=by kernel_rfl
def ir230:PC:=.seq (.reg [o 2 (.alloc [.val (.int .i64 0),.val (.int .i64 0),.val (.str ⟨#[]⟩),.emp 1,.emp 5])]) (.seq (.reg [m 6 0,o 7 (.nilck (.t 6)),o 8 (.faddr 1 (.t
 7)),l 9 8,m 3 9]) (.seq (.reg [m 10 0,o 11 (.call 226 [.t 10,.k (.val (.str ⟨#[45]⟩))])]) (.seq (.block 0 (.loop (.ghost (.seq (.seq (.draw [m 12 0,o 13 (.nilck (.t 12)),o 14
 (.faddr 1 (.t 13)),l 15 14,m 16 0,o 17 (.nilck (.t 16)),o 18 (.faddr 0 (.t 17)),l 19 18,o 20 (.lens (.t 19)),o 21 (.bin .lss (.t 15) (.t 20)),m 22 21,g 23 22 true (.mov
 (.t 0)),g 24 22 true (.nilck (.t 23)),g 25 22 true (.faddr 0 (.t 24)),g 26 22 true (.load false 1 (.t 25)),g 27 22 true (.mov (.t 0)),g 28 22 true (.nilck (.t 27)),g 29 22
 true (.faddr 1 (.t 28)),g 30 22 true (.load false 1 (.t 29)),g 31 22 true (.idx (.t 26) (.t 30)),g 32 22 true (.call 260 [.t 31]),o 33 (.pick (.t 22) (.t 32) F)] []) (.cond (.t
 33) (.skip) (.exit 0))) (.block 1 (.reg [m 34 0,o 35 (.nilck (.t 34)),o 36 (.faddr 1 (.t 35)),l 37 36,o 38 (.bin .add (.t 37) (i 1)),o 39 (.nilck (.t 34)),o 40 (.faddr 1 (.t
 39)),n (.store 1 (.t 40) (.t 38))])))))) (.seq (.draw [m 42 0,o 43 (.nilck (.t 42)),o 44 (.faddr 0 (.t 43)),l 45 44,m 46 3,m 47 0,o 48 (.nilck (.t 47)),o 49 (.faddr 1 (.t
 48)),l 50 49,o 51 (.slc 0 (.t 45) (some (.t 46)) (some (.t 50))),o 52 (.call 249 [.t 51]),m 41 52,o 53 (.ext 0 (.t 41)),o 54 (.ext 1 (.t 41)),m 4 53] [m 5 54]) (.seq (.seq
 (.reg [m 55 5,o 56 (.un .not (.t 55))]) (.cond (.t 56) (.reg [m 57 0,o 58 (.call 182 [.t 57,.k (.val (.int .i64 3))])]) (.skip))) (.seq (.seq (.reg [m 59 4,o 60 (.call 106 [.t
 59,.k (.val (.int .i64 (-999999999))),.k (.val (.int .i64 999999999))]),o 61 (.un .not (.t 60))]) (.cond (.t 61) (.reg [m 62 0,o 63 (.call 182 [.t 62,.k (.val (.int .i64
 4))])]) (.skip))) (.seq (.reg [m 64 4,o 65 (.build [.val (.int .i64 0),.val (.int .i64 0),.val (.str ⟨#[]⟩),.emp 1,.emp 5] [(0,1,.k (.val (.int .i64 3))),(1,1,.t 64)]),n
 (.store 5 (.t 2) (.t 65))]) (.ret))))))))
theorem ok230:K5 Tryz.prog 230 ir230 1 [.c 2 true 5]=true:=by kernel_rfl
def ir227_s25:PC:=.seq (.reg [m 25 0,o 26 (.call 229 [.t 25]),m 9 26]) (.seq (.seq (.reg [o 27 (.faddr 3 (.t 5)),l 28 27,m 29 9,o 30 (.call 140 [.t 28,.t 29])]) (.cond (.t
 30) (.reg [m 31 0,o 32 (.call 182 [.t 31,.k (.val (.int .i64 13))])]) (.skip))) (.seq (.reg [o 33 (.faddr 3 (.t 5)),l 34 33,m 35 9,o 36 (.lit 9 1 [.t 35]),o 37 (.app 9 1 16
 (.t 34) (.t 36)),o 38 (.faddr 3 (.t 5)),n (.store 1 (.t 38) (.t 37))]) (.seq (.reg [m 39 0,o 40 (.call 181 [.t 39])]) (.reg [m 41 0,o 42 (.call 256 [.t 41,.k (.val (.str
 ⟨#[58]⟩))])]))))
def ir227_s52:PC:=.seq (.seq (.reg [o 52 (.faddr 4 (.t 5)),l 53 52,o 54 (.len (.t 53)),o 55 (.bin .gtr (.t 54) (i 12))]) (.cond (.t 55) (.reg [m 56 0,o 57 (.call 182 [.t 56,
 .k (.val (.int .i64 6))])]) (.skip))) (.seq (.reg [m 58 0,o 59 (.call 181 [.t 58])]) (.seq (.seq (.reg [m 60 0,m 61 3,o 62 (.call 226 [.t 60,.t 61])]) (.cond (.t 62) (.seq
 (.reg [o 63 (.load true 5 (.t 5)),n (.store 5 (.t 8) (.t 63))]) (.ret)) (.skip))) (.reg [m 64 0,o 65 (.call 256 [.t 64,.k (.val (.str ⟨#[44]⟩))])])))
def ir227_s43:PC:=.seq (.mix (.early 0 (o 43 (.faddr 4 (.t 5))) (.early 1 (l 44 43) (.early 2 (m 45 0) (.early 3 (m 46 2) (.early 4 (o 47 (.bin .add (.t 46) (i 1))) (.step 5 (o
 48 (.call 180 [.t 45,.t 47])) [0,1] (.early 6 (o 49 (.lit 81 5 [.t 48])) (.step 7 (o 50 (.app 81 5 80 (.t 44) (.t 49))) [] (.early 8 (o 51 (.faddr 4 (.t 5))) (.step 9 (n (.store
 1 (.t 51) (.t 50))) [] .done))))))))))) (ir227_s52)
def ir227:PC:=.seq (.reg [o 5 (.box (.t 1)),o 8 (.alloc [.val (.int .i64 0),.val (.int .i64 0),.val (.str ⟨#[]⟩),.emp 1,.emp 5])]) (.seq (.seq (.reg [m 10 2,o 11 (.bin
 .eql (.t 10) (i 4))]) (.cond (.t 11) (.reg [m 12 0,o 13 (.call 182 [.t 12,.k (.val (.int .i64 12))])]) (.skip))) (.seq (.reg [m 14 0,o 15 (.call 181 [.t 14])]) (.seq (.seq (.reg
 [m 16 0,m 17 3,o 18 (.call 226 [.t 16,.t 17])]) (.cond (.t 18) (.seq (.reg [o 19 (.load true 5 (.t 5)),n (.store 5 (.t 8) (.t 19))]) (.ret)) (.skip))) (.block 0 (.loop (.ghost
 (.block 1 (.seq (.reg [m 20 0,o 21 (.call 181 [.t 20])]) (.seq (.seq (.reg [o 22 (.faddr 0 (.t 5)),l 23 22,o 24 (.bin .eql (.t 23) (i 6))]) (.cond (.t 24) (ir227_s25) (.skip)))
 (ir227_s43))))))))))
theorem ok227:K5 Tryz.prog 227 ir227 4 [.c 8 true 5]=true:=by kernel_rfl
def ir180:PC:=.seq (.reg [o 4 (.alloc [.val (.int .i64 0),.val (.int .i64 0),.val (.str ⟨#[]⟩),.emp 1,.emp 5])]) (.seq (.reg [m 5 0,o 6 (.call 181 [.t 5])]) (.seq (.block 0
 (.seq (.reg [m 8 0,o 9 (.call 226 [.t 8,.k (.val (.str ⟨#[110,117,108,108]⟩))]),m 7 9]) (.cond (.t 7) (.seq (.reg [o 10 (.build [.val (.int .i64 0),.val (.int .i64 0),.val
 (.str ⟨#[]⟩),.emp 1,.emp 5] [(0,1,.k (.val (.int .i64 1)))]),n (.store 5 (.t 4) (.t 10))]) (.ret)) (.seq (.reg [m 12 0,o 13 (.call 226 [.t 12,.k (.val (.str ⟨#[116,114,
 117,101]⟩))]),m 11 13]) (.cond (.t 11) (.seq (.reg [o 14 (.build [.val (.int .i64 0),.val (.int .i64 0),.val (.str ⟨#[]⟩),.emp 1,.emp 5] [(0,1,.k (.val (.int .i64 2))),(1,
 1,.k (.val (.int .i64 1)))]),n (.store 5 (.t 4) (.t 14))]) (.ret)) (.seq (.reg [m 16 0,o 17 (.call 226 [.t 16,.k (.val (.str ⟨#[102,97,108,115,101]⟩))]),m 15 17]) (.cond
 (.t 15) (.seq (.reg [o 18 (.build [.val (.int .i64 0),.val (.int .i64 0),.val (.str ⟨#[]⟩),.emp 1,.emp 5] [(0,1,.k (.val (.int .i64 2)))]),n (.store 5 (.t 4) (.t 18))])
 (.ret)) (.seq (.reg [m 20 0,o 21 (.call 226 [.t 20,.k (.val (.str ⟨#[91]⟩))]),m 19 21]) (.cond (.t 19) (.seq (.reg [m 22 0,o 23 (.build [.val (.int .i64 0),.val (.int .i64 0),
 .val (.str ⟨#[]⟩),.emp 1,.emp 5] [(0,1,.k (.val (.int .i64 5)))]),m 24 1,o 25 (.call 227 [.t 22,.t 23,.t 24,.k (.val (.str ⟨#[93]⟩))]),n (.store 5 (.t 4) (.t 25))])
 (.ret)) (.seq (.reg [m 27 0,o 28 (.call 226 [.t 27,.k (.val (.str ⟨#[123]⟩))]),m 26 28]) (.cond (.t 26) (.seq (.reg [m 29 0,o 30 (.build [.val (.int .i64 0),.val (.int .i64
 0),.val (.str ⟨#[]⟩),.emp 1,.emp 5] [(0,1,.k (.val (.int .i64 6)))]),m 31 1,o 32 (.call 227 [.t 29,.t 30,.t 31,.k (.val (.str ⟨#[125]⟩))]),n (.store 5 (.t 4) (.t 32))])
 (.ret)) (.seq (.draw [m 34 0,o 35 (.nilck (.t 34)),o 36 (.faddr 0 (.t 35)),l 37 36,m 38 0,o 39 (.nilck (.t 38)),o 40 (.faddr 1 (.t 39)),l 41 40,o 42 (.slc 0 (.t 37) (some
 (.t 41)) none),o 43 (.call 228 [.t 42,.k (.val (.str ⟨#[34]⟩))]),m 33 43] []) (.cond (.t 33) (.seq (.reg [m 44 0,o 45 (.call 229 [.t 44]),o 46 (.build [.val (.int .i64 0),
 .val (.int .i64 0),.val (.str ⟨#[]⟩),.emp 1,.emp 5] [(0,1,.k (.val (.int .i64 4))),(2,1,.t 45)]),n (.store 5 (.t 4) (.t 46))]) (.ret)) (.skip)))))))))))))) (.seq (.reg [m
 47 0,o 48 (.call 230 [.t 47]),n (.store 5 (.t 4) (.t 48))]) (.ret))))
theorem ok180:K5 Tryz.prog 180 ir180 2 [.c 4 true 5]=true:=by kernel_rfl
end Go.Proofs
end
section
namespace Go.Proofs
open Go.PW Go.PW.I
def ir118_r0:PC:=.reg [o 2 (.alloc [.val (.int .i64 0),.val (.int .i64 0),.val (.str ⟨#[]⟩),.emp 1,.emp 5]),o 3 (.alloc [.val (.int .i64 0)])]
def ir118:PC:=.seq (.reg [m 6 0,o 7 (.build [.val (.str ⟨#[]⟩),.val (.int .i64 0)] [(0,1,.t 6)]),o 8 (.box (.t 7)),m 4 8]) (.seq (.reg [m 9 4,o 10 (.call 180 [.t 9,.k
 (.val (.int .i64 0))]),n (.store 5 (.t 2) (.t 10))]) (.seq (.reg [m 11 4,o 12 (.call 181 [.t 11])]) (.seq (.seq (.reg [m 13 4,o 14 (.nilck (.t 13)),o 15 (.faddr 1 (.t 14)),l
 16 15,m 17 0,o 18 (.lens (.t 17)),o 19 (.bin .lss (.t 16) (.t 18))]) (.cond (.t 19) (.reg [m 20 4,o 21 (.call 182 [.t 20,.k (.val (.int .i64 3))])]) (.skip))) (.seq (.reg [o
 22 (.load true 5 (.t 2)),n (.store 5 (.t 2) (.t 22)),n (.store 1 (.t 3) (i 0))]) (.ret)))))
theorem ok118:c5m Tryz.prog 118 ir118_r0 ir118 1 [.c 2 true 5,.c 3 false 1]=true:=by kernel_rfl
def ir58:PC:=.seq (.reg [o 2 (.alloc [.val (.int .i64 0),.val (.int .i64 0),.val (.str ⟨#[]⟩),.emp 1,.emp 5]),o 3 (.mov (i 0))]) (.seq (.seq (.reg [m 5 0,o 6 (.call 84 [.t
 5]),m 4 6]) (.seq (.reg [m 7 4,o 8 (.bin .neq (.t 7) (i 0))]) (.cond (.t 8) (.seq (.reg [o 9 (.build [.val (.int .i64 0),.val (.int .i64 0),.val (.str ⟨#[]⟩),.emp 1,.emp 5]
 []),m 10 4,n (.store 5 (.t 2) (.t 9)),m 3 10]) (.ret)) (.skip)))) (.seq (.reg [m 11 0,o 12 (.call 118 [.t 11]),o 13 (.ext 0 (.t 12)),o 14 (.ext 1 (.t 12)),n (.store 5 (.t 2)
 (.t 13)),m 3 14]) (.ret)))
theorem ok58:K5 Tryz.prog 58 ir58 1 [.c 2 true 5,.t 3]=true:=by kernel_rfl
end Go.Proofs
end
section
namespace Go.Proofs
open Go.PW Go.PW.I
def ir160:PC:=.seq (.reg [o 2 (.box (.t 0)),o 4 (.alloc [.val (.int .i64 0),.val (.int .i64 0),.val (.str ⟨#[]⟩),.emp 1,.emp 5]),o 5 (.mov F)]) (.seq (.seq (.reg [o 6
 (.mov (i 0))]) (.block 0 (.loop (.ghost (.seq (.seq (.reg [m 7 6,o 8 (.faddr 3 (.t 2)),l 9 8,o 10 (.len (.t 9)),o 11 (.bin .lss (.t 7) (.t 10)),m 12 11,g 13 12 true (.mov (.t
 6)),g 14 12 true (.faddr 4 (.t 2)),g 15 12 true (.load false 1 (.t 14)),g 16 12 true (.len (.t 15)),g 17 12 true (.bin .lss (.t 13) (.t 16)),o 18 (.pick (.t 12) (.t 17) F)])
 (.cond (.t 18) (.skip) (.exit 0))) (.seq (.block 1 (.seq (.reg [o 21 (.faddr 3 (.t 2)),l 22 21,m 23 6,o 24 (.iaddr 1 (.t 22) (.t 23)),l 25 24,m 26 1,o 27 (.bin .eql (.t 25)
 (.t 26))]) (.cond (.t 27) (.seq (.reg [o 28 (.faddr 4 (.t 2)),l 29 28,m 30 6,o 31 (.iaddr 5 (.t 29) (.t 30)),o 32 (.load true 5 (.t 31)),n (.store 5 (.t 4) (.t 32)),o 5 (.mov
 T)]) (.ret)) (.skip)))) (.reg [m 19 6,o 20 (.bin .add (.t 19) (i 1)),m 6 20]))))))) (.seq (.reg [o 33 (.build [.val (.int .i64 0),.val (.int .i64 0),.val (.str ⟨#[]⟩),.emp 1,
 .emp 5] []),n (.store 5 (.t 4) (.t 33)),o 5 (.mov F)]) (.ret)))
theorem ok160:K5 Tryz.prog 160 ir160 2 [.c 4 true 5,.t 5]=true:=by kernel_rfl
def ir59:PC:=.seq (.reg [o 2 (.box (.t 0)),o 4 (.alloc [.val (.int .i64 0),.val (.int .i64 0),.val (.str ⟨#[]⟩),.emp 1,.emp 5]),o 5 (.mov F)]) (.seq (.reg [o 7 (.faddr 3
 (.t 2)),l 8 7,m 9 1,o 10 (.call 119 [.t 8,.t 9]),m 6 10]) (.seq (.seq (.reg [m 11 6,o 12 (.bin .lss (.t 11) (i 0))]) (.cond (.t 12) (.seq (.reg [o 13 (.build [.val (.int .i64
 0),.val (.int .i64 0),.val (.str ⟨#[]⟩),.emp 1,.emp 5] []),n (.store 5 (.t 4) (.t 13)),o 5 (.mov F)]) (.ret)) (.skip))) (.seq (.reg [o 14 (.faddr 4 (.t 2)),l 15 14,m 16 6,
 o 17 (.iaddr 5 (.t 15) (.t 16)),o 18 (.load true 5 (.t 17)),n (.store 5 (.t 4) (.t 18)),o 5 (.mov T)]) (.ret))))
theorem ok59:K5 Tryz.prog 59 ir59 2 [.c 4 true 5,.t 5]=true:=by kernel_rfl
end Go.Proofs
end
section
namespace Go.Proofs
open Go.PW Go.PW.I
def ir255:PC:=.seq (.reg [o 2 (.box (.t 0)),o 4 (.mov F)]) (.seq (.reg [o 7 (.faddr 3 (.t 2)),l 8 7,o 9 (.len (.t 8)),o 10 (.bin .eql (.t 9) (i 0)),m 11 10,g 12 11 true
 (.faddr 4 (.t 2)),g 13 11 true (.load false 1 (.t 12)),g 14 11 true (.len (.t 13)),g 15 11 true (.bin .eql (.t 14) (i 0)),o 16 (.pick (.t 11) (.t 15) F),m 5 16]) (.seq (.seq
 (.reg [o 17 (.faddr 0 (.t 2)),l 18 17]) (.block 0 (.seq (.reg [o 20 (.bin .eql (.t 18) (i 1)),m 19 20]) (.cond (.t 19) (.seq (.reg [o 21 (.faddr 1 (.t 2)),l 22 21,o 23 (.bin
 .eql (.t 22) (i 0)),m 24 23,g 25 24 true (.faddr 2 (.t 2)),g 26 24 true (.load false 1 (.t 25)),g 27 24 true (.bin .eql (.t 26) (z #[])),o 28 (.pick (.t 24) (.t 27) F),m 29
 28,g 30 29 true (.mov (.t 5)),o 31 (.pick (.t 29) (.t 30) F),m 4 31]) (.ret)) (.seq (.reg [o 33 (.bin .eql (.t 18) (i 2)),m 32 33]) (.cond (.t 32) (.seq (.reg [o 34 (.faddr 1
 (.t 2)),l 35 34,o 36 (.call 129 [.t 35,.k (.val (.int .i64 0)),.k (.val (.int .i64 1))]),m 37 36,g 38 37 true (.faddr 2 (.t 2)),g 39 37 true (.load false 1 (.t 38)),g 40 37
 true (.bin .eql (.t 39) (z #[])),o 41 (.pick (.t 37) (.t 40) F),m 42 41,g 43 42 true (.mov (.t 5)),o 44 (.pick (.t 42) (.t 43) F),m 4 44]) (.ret)) (.seq (.reg [o 46 (.bin .eql
 (.t 18) (i 3)),m 45 46]) (.cond (.t 45) (.seq (.reg [o 47 (.faddr 1 (.t 2)),l 48 47,o 49 (.call 129 [.t 48,.k (.val (.int .i64 (-999999999))),.k (.val (.int .i64
 999999999))]),m 50 49,g 51 50 true (.faddr 2 (.t 2)),g 52 50 true (.load false 1 (.t 51)),g 53 50 true (.bin .eql (.t 52) (z #[])),o 54 (.pick (.t 50) (.t 53) F),m 55 54,g
 56 55 true (.mov (.t 5)),o 57 (.pick (.t 55) (.t 56) F),m 4 57]) (.ret)) (.seq (.reg [o 59 (.bin .eql (.t 18) (i 4)),m 58 59]) (.cond (.t 58) (.seq (.reg [o 60 (.faddr 1 (.t
 2)),l 61 60,o 62 (.bin .eql (.t 61) (i 0)),m 63 62,g 64 63 true (.faddr 2 (.t 2)),g 65 63 true (.load false 1 (.t 64)),g 66 63 true (.lens (.t 65)),g 67 63 true (.bin .leq
 (.t 66) (i 120)),o 68 (.pick (.t 63) (.t 67) F),m 69 68,g 70 69 true (.mov (.t 5)),o 71 (.pick (.t 69) (.t 70) F),m 4 71]) (.ret)) (.skip))))))))))) (.seq (.seq (.reg [o 72
 (.faddr 0 (.t 2)),l 73 72,o 74 (.bin .neq (.t 73) (i 5)),m 75 74,g 76 75 true (.faddr 0 (.t 2)),g 77 75 true (.load false 1 (.t 76)),g 78 75 true (.bin .neq (.t 77) (i 6)),o
 79 (.pick (.t 75) (.t 78) F),m 80 79,g 81 80 false (.faddr 1 (.t 2)),g 82 80 false (.load false 1 (.t 81)),g 83 80 false (.bin .neq (.t 82) (i 0)),o 84 (.pick (.t 80) T (.t
 83)),m 85 84,g 86 85 false (.faddr 2 (.t 2)),g 87 85 false (.load false 1 (.t 86)),g 88 85 false (.bin .neq (.t 87) (z #[])),o 89 (.pick (.t 85) T (.t 88)),m 90 89,g 91 90
 false (.mov (.t 1)),g 92 90 false (.bin .eql (.t 91) (i 1)),o 93 (.pick (.t 90) T (.t 92)),m 94 93,g 95 94 false (.faddr 4 (.t 2)),g 96 94 false (.load false 1 (.t 95)),g 97
 94 false (.len (.t 96)),g 98 94 false (.bin .gtr (.t 97) (i 12)),o 99 (.pick (.t 94) T (.t 98)),m 100 99,g 101 100 false (.faddr 0 (.t 2)),g 102 100 false (.load false 1 (.t
 101)),g 103 100 false (.bin .eql (.t 102) (i 5)),g 104 100 false (.mov (.t 103)),g 105 104 true (.faddr 3 (.t 2)),g 106 104 true (.load false 1 (.t 105)),g 107 104 true (.len
 (.t 106)),g 108 104 true (.bin .gtr (.t 107) (i 0)),g 109 100 false (.pick (.t 104) (.t 108) F),o 110 (.pick (.t 100) T (.t 109)),m 111 110,g 112 111 false (.faddr 0 (.t 2)),
 g 113 111 false (.load false 1 (.t 112)),g 114 111 false (.bin .eql (.t 113) (i 6)),g 115 111 false (.mov (.t 114)),g 116 115 true (.faddr 3 (.t 2)),g 117 115 true (.load false
 1 (.t 116)),g 118 115 true (.len (.t 117)),g 119 115 true (.faddr 4 (.t 2)),g 120 115 true (.load false 1 (.t 119)),g 121 115 true (.len (.t 120)),g 122 115 true (.bin .neq
 (.t 118) (.t 121)),g 123 111 false (.pick (.t 115) (.t 122) F),o 124 (.pick (.t 111) T (.t 123))]) (.cond (.t 124) (.seq (.reg [o 4 (.mov F)]) (.ret)) (.skip))) (.seq (.seq (.reg
 [o 6 (.mov (i 0))]) (.block 1 (.loop (.ghost (.seq (.seq (.reg [m 125 6,o 126 (.faddr 4 (.t 2)),l 127 126,o 128 (.len (.t 127)),o 129 (.bin .lss (.t 125) (.t 128))]) (.cond (.t
 129) (.skip) (.exit 1))) (.seq (.block 2 (.seq (.draw [o 132 (.faddr 4 (.t 2)),l 133 132,m 134 6,o 135 (.iaddr 5 (.t 133) (.t 134)),o 136 (.load true 5 (.t 135)),m 137 1,o
 138 (.bin .sub (.t 137) (i 1)),o 139 (.call 255 [.t 136,.t 138]),o 140 (.un .not (.t 139)),m 141 140,g 142 141 false (.faddr 0 (.t 2)),g 143 141 false (.load false 1 (.t
 142)),g 144 141 false (.bin .eql (.t 143) (i 6)),g 145 141 false (.mov (.t 144)),g 146 145 true (.faddr 3 (.t 2)),g 147 145 true (.load false 1 (.t 146)),g 148 145 true (.mov
 (.t 6)),g 149 145 true (.iaddr 1 (.t 147) (.t 148)),g 150 145 true (.load false 1 (.t 149)),g 151 145 true (.lens (.t 150)),g 152 145 true (.bin .gtr (.t 151) (i 120)),g 153
 145 true (.mov (.t 152)),g 154 153 false (.faddr 3 (.t 2)),g 155 153 false (.load false 1 (.t 154)),g 156 153 false (.mov (.t 6)),g 157 153 false (.slc 1 (.t 155) none (some
 (.t 156))),g 158 153 false (.faddr 3 (.t 2)),g 159 153 false (.load false 1 (.t 158)),g 160 153 false (.mov (.t 6)),g 161 153 false (.iaddr 1 (.t 159) (.t 160)),g 162 153
 false (.load false 1 (.t 161)),g 163 153 false (.call 192 [.t 157,.t 162]),g 164 145 true (.pick (.t 153) T (.t 163)),g 165 141 false (.pick (.t 145) (.t 164) F),o 166 (.pick
 (.t 141) T (.t 165))] []) (.cond (.t 166) (.seq (.reg [o 4 (.mov F)]) (.ret)) (.skip)))) (.reg [m 130 6,o 131 (.bin .add (.t 130) (i 1)),m 6 131]))))))) (.seq (.reg [o 4 (.mov
 T)]) (.ret))))))
theorem ok255:K5 Tryz.prog 255 ir255 2 [.t 4]=true:=by kernel_rfl
def ir124_from5:PC:=.seq (.seq (.reg [o 85 (.faddr 3 (.t 2)),l 86 85,o 87 (.len (.t 86)),o 88 (.mov (i 0))]) (.block 1 (.loop (.ghost (.seq (.reg [o 89 (.bin .lss (.t 88) (.t
 87))]) (.seq (.cond (.t 89) (.skip) (.exit 1)) (.seq (.block 2 (.seq (.reg [m 90 88,o 91 (.iaddr 1 (.t 86) (.t 88)),l 92 91,m 9 90,m 10 92]) (.seq (.reg [m 93 10,o 94 (.lens
 (.t 93)),o 95 (.bin .gtr (.t 94) (i 120)),m 96 95,g 97 96 false (.faddr 3 (.t 2)),g 98 96 false (.load false 1 (.t 97)),g 99 96 false (.mov (.t 9)),g 100 96 false (.slc 1 (.t
 98) none (some (.t 99))),g 101 96 false (.mov (.t 10)),g 102 96 false (.call 140 [.t 100,.t 101]),o 103 (.pick (.t 96) T (.t 102))]) (.cond (.t 103) (.seq (.reg [o 4 (.mov F)])
 (.ret)) (.skip))))) (.reg [o 104 (.bin .add (.t 88) (i 1)),m 88 104])))))))) (.seq (.reg [o 105 (.faddr 4 (.t 2)),l 106 105,o 107 (.mkfn 188 [.t 3]),o 108 (.call 187 [.t 106,
 .t 107]),o 109 (.un .not (.t 108)),m 4 109]) (.ret))
def ir124:PC:=.seq (.reg [o 2 (.box (.t 0)),o 3 (.box (.t 1)),o 4 (.mov F)]) (.seq (.seq (.reg [l 11 3,o 12 (.bin .eql (.t 11) (i 0))]) (.cond (.t 12) (.seq (.reg [o 4 (.mov
 F)]) (.ret)) (.skip))) (.seq (.draw [o 13 (.faddr 1 (.t 2)),l 14 13,o 15 (.bin .eql (.t 14) (i 0)),o 16 (.faddr 2 (.t 2)),l 17 16,o 18 (.bin .eql (.t 17) (z #[])),o 19
 (.faddr 3 (.t 2)),l 20 19,o 21 (.len (.t 20)),o 22 (.bin .eql (.t 21) (i 0)),o 23 (.faddr 4 (.t 2)),l 24 23,o 25 (.len (.t 24)),o 26 (.bin .eql (.t 25) (i 0)),m 5 15,m 6
 18,m 7 22] [m 8 26]) (.seq (.seq (.reg [o 27 (.faddr 0 (.t 2)),l 28 27]) (.block 0 (.seq (.reg [o 30 (.bin .eql (.t 28) (i 1)),m 29 30]) (.cond (.t 29) (.skip) (.seq (.reg [o 32
 (.bin .eql (.t 28) (i 2)),m 31 32]) (.cond (.t 31) (.reg [o 33 (.faddr 1 (.t 2)),l 34 33,o 35 (.call 106 [.t 34,.k (.val (.int .i64 0)),.k (.val (.int .i64 1))]),m 5 35])
 (.seq (.reg [o 37 (.bin .eql (.t 28) (i 3)),m 36 37]) (.cond (.t 36) (.reg [o 38 (.faddr 1 (.t 2)),l 39 38,o 40 (.call 106 [.t 39,.k (.val (.int .i64 (-999999999))),.k (.val
 (.int .i64 999999999))]),m 5 40]) (.seq (.reg [o 42 (.bin .eql (.t 28) (i 4)),m 41 42]) (.cond (.t 41) (.reg [o 43 (.faddr 2 (.t 2)),l 44 43,o 45 (.lens (.t 44)),o 46 (.bin
 .leq (.t 45) (i 120)),m 6 46]) (.seq (.seq (.reg [o 48 (.bin .eql (.t 28) (i 5)),m 47 48]) (.cond (.t 47) (.skip) (.reg [o 49 (.bin .eql (.t 28) (i 6)),m 47 49]))) (.cond (.t
 47) (.seq (.reg [o 50 (.faddr 4 (.t 2)),l 51 50,o 52 (.len (.t 51)),o 53 (.bin .leq (.t 52) (i 12)),m 54 53,g 55 54 true (.load false 1 (.t 3)),g 56 54 true (.bin .gtr (.t
 55) (i 1)),o 57 (.pick (.t 54) (.t 56) F),m 8 57]) (.seq (.reg [o 58 (.faddr 0 (.t 2)),l 59 58,o 60 (.bin .eql (.t 59) (i 6))]) (.cond (.t 60) (.reg [m 61 8,m 62 61,g 63 62
 true (.faddr 3 (.t 2)),g 64 62 true (.load false 1 (.t 63)),g 65 62 true (.len (.t 64)),g 66 62 true (.faddr 4 (.t 2)),g 67 62 true (.load false 1 (.t 66)),g 68 62 true (.len
 (.t 67)),g 69 62 true (.bin .eql (.t 65) (.t 68)),o 70 (.pick (.t 62) (.t 69) F),m 7 70]) (.skip)))) (.seq (.reg [o 4 (.mov F)]) (.ret)))))))))))))) (.seq (.seq (.reg [m 71 5,o
 72 (.un .not (.t 71)),m 73 72,g 74 73 false (.mov (.t 6)),g 75 73 false (.un .not (.t 74)),o 76 (.pick (.t 73) T (.t 75)),m 77 76,g 78 77 false (.mov (.t 7)),g 79 77 false
 (.un .not (.t 78)),o 80 (.pick (.t 77) T (.t 79)),m 81 80,g 82 81 false (.mov (.t 8)),g 83 81 false (.un .not (.t 82)),o 84 (.pick (.t 81) T (.t 83))]) (.cond (.t 84) (.seq
 (.reg [o 4 (.mov F)]) (.ret)) (.skip))) (ir124_from5)))))
theorem ok124:K5 Tryz.prog 124 ir124 2 [.t 4]=true:=by kernel_rfl
def ir188:PC:=.seq (.reg [o 2 (.box (.t 0)),o 3 (.mov F)]) (.seq (.reg [o 4 (.load true 5 (.t 2)),l 5 1,o 6 (.bin .sub (.t 5) (i 1)),o 7 (.call 124 [.t 4,.t 6]),o 8 (.un
 .not (.t 7)),m 3 8]) (.ret))
theorem ok188:K5 Tryz.prog 188 ir188 2 [.t 3]=true:=by kernel_rfl
def ir235:PC:=.seq (.reg [o 4 (.mov (i 0))]) (.seq (.seq (.reg [m 6 0,o 7 (.len (.t 6)),o 8 (.mov (i 0))]) (.block 0 (.loop (.ghost (.seq (.reg [o 9 (.bin .lss (.t 8) (.t
 7))]) (.seq (.cond (.t 9) (.skip) (.exit 0)) (.seq (.block 1 (.seq (.reg [m 10 8,m 5 10]) (.seq (.reg [m 11 1,m 12 0,m 13 5,o 14 (.iaddr 5 (.t 12) (.t 13)),o 15 (.load true 5
 (.t 14)),o 16 (.callv (.t 11) [.t 15])]) (.cond (.t 16) (.seq (.reg [m 17 5,m 4 17]) (.ret)) (.skip))))) (.reg [o 18 (.bin .add (.t 8) (i 1)),m 8 18])))))))) (.seq (.reg [o 4
 (.mov (i (-1)))]) (.ret)))
theorem ok235:K5 Tryz.prog 235 ir235 2 [.t 4]=true:=by kernel_rfl
def ir187:PC:=.seq (.reg [o 4 (.mov F)]) (.seq (.reg [m 5 0,m 6 1,o 7 (.call 235 [.t 5,.t 6]),o 8 (.bin .geq (.t 7) (i 0)),m 4 8]) (.ret))
theorem ok187:K5 Tryz.prog 187 ir187 2 [.t 4]=true:=by kernel_rfl
def ir225:PC:=.seq (.reg [o 2 (.mov F)]) (.seq (.reg [m 6 0,o 7 (.call 103 [.t 6]),m 5 7,o 8 (.ext 0 (.t 5)),o 9 (.ext 1 (.t 5)),o 3 (.alloc [.val (.int .i64 0),.val (.int
 .i64 0),.val (.str ⟨#[]⟩),.emp 1,.emp 5]),n (.store 5 (.t 3) (.t 8)),m 4 9]) (.seq (.reg [m 10 4,o 11 (.bin .eql (.t 10) (i 0)),m 12 11,g 13 12 true (.faddr 0 (.t 3)),g 14
 12 true (.load false 1 (.t 13)),g 15 12 true (.bin .eql (.t 14) (i 6)),o 16 (.pick (.t 12) (.t 15) F),m 17 16,g 18 17 true (.load true 5 (.t 3)),g 19 17 true (.call 255 [.t
 18,.k (.val (.int .i64 3))]),o 20 (.pick (.t 17) (.t 19) F),m 21 20,g 22 21 true (.load true 5 (.t 3)),g 23 21 true (.call 177 [.t 22]),g 24 21 true (.mov (.t 0)),g 25 21
 true (.bin .eql (.t 23) (.t 24)),o 26 (.pick (.t 21) (.t 25) F),m 2 26]) (.ret)))
theorem ok225:K5 Tryz.prog 225 ir225 1 [.t 2]=true:=by kernel_rfl
def ir178:PC:=.seq (.reg [o 1 (.box (.t 0)),o 2 (.mov F)]) (.seq (.reg [o 3 (.faddr 0 (.t 1)),l 4 3,o 5 (.call 129 [.t 4,.k (.val (.int .i64 1)),.k (.val (.int .i64
 1000000))]),m 6 5,g 7 6 true (.faddr 1 (.t 1)),g 8 6 true (.load false 1 (.t 7)),g 9 6 true (.call 129 [.t 8,.k (.val (.int .i64 0)),.k (.val (.int .i64 1000000))]),o 10
 (.pick (.t 6) (.t 9) F),m 11 10,g 12 11 true (.faddr 2 (.t 1)),g 13 11 true (.load false 1 (.t 12)),g 14 11 true (.lens (.t 13)),g 15 11 true (.bin .leq (.t 14) (i 8000)),o
 16 (.pick (.t 11) (.t 15) F),m 17 16,g 18 17 true (.faddr 2 (.t 1)),g 19 17 true (.load false 1 (.t 18)),g 20 17 true (.call 225 [.t 19]),o 21 (.pick (.t 17) (.t 20) F),m 2
 21]) (.ret))
theorem ok178:K5 Tryz.prog 178 ir178 1 [.t 2]=true:=by kernel_rfl
def ir61:PC:=.seq (.reg [o 1 (.box (.t 0)),o 2 (.mov F)]) (.seq (.seq (.reg [o 5 (.faddr 0 (.t 1)),l 6 5,o 7 (.call 106 [.t 6,.k (.val (.int .i64 1)),.k (.val (.int .i64
 1000000))]),o 8 (.un .not (.t 7)),m 9 8,g 10 9 false (.faddr 1 (.t 1)),g 11 9 false (.load false 1 (.t 10)),g 12 9 false (.call 123 [.t 11]),g 13 9 false (.un .not (.t 12)),
 o 14 (.pick (.t 9) T (.t 13)),m 15 14,g 16 15 false (.faddr 2 (.t 1)),g 17 15 false (.load false 1 (.t 16)),g 18 15 false (.lens (.t 17)),g 19 15 false (.bin .gtr (.t 18) (i
 8000)),o 20 (.pick (.t 15) T (.t 19))]) (.cond (.t 20) (.seq (.reg [o 2 (.mov F)]) (.ret)) (.skip))) (.seq (.reg [o 22 (.faddr 2 (.t 1)),l 23 22,o 24 (.call 118 [.t 23]),m 21
 24,o 25 (.ext 0 (.t 21)),o 26 (.ext 1 (.t 21)),o 3 (.alloc [.val (.int .i64 0),.val (.int .i64 0),.val (.str ⟨#[]⟩),.emp 1,.emp 5]),n (.store 5 (.t 3) (.t 25)),m 4 26])
 (.seq (.draw [m 27 4,o 28 (.bin .eql (.t 27) (i 0)),m 29 28,g 30 29 true (.faddr 0 (.t 3)),g 31 29 true (.load false 1 (.t 30)),g 32 29 true (.bin .eql (.t 31) (i 6)),o 33
 (.pick (.t 29) (.t 32) F),m 34 33,g 35 34 true (.load true 5 (.t 3)),g 36 34 true (.call 124 [.t 35,.k (.val (.int .i64 3))]),o 37 (.pick (.t 34) (.t 36) F),m 38 37,g 39 38
 true (.load true 5 (.t 3)),g 40 38 true (.call 60 [.t 39]),g 41 38 true (.faddr 2 (.t 1)),g 42 38 true (.load false 1 (.t 41)),g 43 38 true (.bin .eql (.t 40) (.t 42)),o 44
 (.pick (.t 38) (.t 43) F)] [m 2 44]) (.ret))))
theorem ok61:K5 Tryz.prog 61 ir61 1 [.t 2]=true:=by kernel_rfl
def ir117:PC:=.seq (.reg [o 1 (.box (.t 0)),o 2 (.alloc [.val (.int .i64 0),.val (.int .i64 0),.val (.str ⟨#[]⟩)]),o 3 (.mov F)]) (.seq (.reg [o 12 (.load true 5 (.t 1)),o
 13 (.call 160 [.t 12,.k (.val (.str ⟨#[97,103,101]⟩))]),m 11 13,o 14 (.ext 0 (.t 11)),o 15 (.ext 1 (.t 11)),o 4 (.alloc [.val (.int .i64 0),.val (.int .i64 0),.val (.str
 ⟨#[]⟩),.emp 1,.emp 5]),n (.store 5 (.t 4) (.t 14)),m 5 15]) (.seq (.reg [o 17 (.load true 5 (.t 1)),o 18 (.call 160 [.t 17,.k (.val (.str ⟨#[98,111,100,121]⟩))]),m 16 18,
 o 19 (.ext 0 (.t 16)),o 20 (.ext 1 (.t 16)),o 6 (.alloc [.val (.int .i64 0),.val (.int .i64 0),.val (.str ⟨#[]⟩),.emp 1,.emp 5]),n (.store 5 (.t 6) (.t 19)),m 7 20]) (.seq
 (.reg [o 22 (.load true 5 (.t 1)),o 23 (.call 160 [.t 22,.k (.val (.str ⟨#[105,100]⟩))]),m 21 23,o 24 (.ext 0 (.t 21)),o 25 (.ext 1 (.t 21)),o 8 (.alloc [.val (.int .i64 0),
 .val (.int .i64 0),.val (.str ⟨#[]⟩),.emp 1,.emp 5]),n (.store 5 (.t 8) (.t 24)),m 9 25]) (.seq (.seq (.reg [m 26 5,o 27 (.un .not (.t 26)),m 28 27,g 29 28 false (.mov (.t
 7)),g 30 28 false (.un .not (.t 29)),o 31 (.pick (.t 28) T (.t 30)),m 32 31,g 33 32 false (.mov (.t 9)),g 34 32 false (.un .not (.t 33)),o 35 (.pick (.t 32) T (.t 34)),m 36
 35,g 37 36 false (.faddr 3 (.t 1)),g 38 36 false (.load false 1 (.t 37)),g 39 36 false (.len (.t 38)),g 40 36 false (.bin .neq (.t 39) (i 3)),o 41 (.pick (.t 36) T (.t 40)),m
 42 41,g 43 42 false (.faddr 0 (.t 4)),g 44 42 false (.load false 1 (.t 43)),g 45 42 false (.bin .neq (.t 44) (i 3)),o 46 (.pick (.t 42) T (.t 45)),m 47 46,g 48 47 false
 (.faddr 0 (.t 8)),g 49 47 false (.load false 1 (.t 48)),g 50 47 false (.bin .neq (.t 49) (i 3)),o 51 (.pick (.t 47) T (.t 50)),m 52 51,g 53 52 false (.faddr 0 (.t 6)),g 54 52
 false (.load false 1 (.t 53)),g 55 52 false (.bin .neq (.t 54) (i 6)),o 56 (.pick (.t 52) T (.t 55))]) (.cond (.t 56) (.seq (.reg [o 57 (.build [.val (.int .i64 0),.val (.int
 .i64 0),.val (.str ⟨#[]⟩)] []),n (.store 3 (.t 2) (.t 57)),o 3 (.mov F)]) (.ret)) (.skip))) (.seq (.mix (.early 0 (o 58 (.faddr 1 (.t 8))) (.early 1 (l 59 58) (.early 2 (o 60
 (.faddr 1 (.t 4))) (.early 3 (l 61 60) (.early 4 (o 62 (.load true 5 (.t 6))) (.alt 5 (o 63 (.call 177 [.t 62])) [0,1,2,3] (.early 6 (o 64 (.build [.val (.int .i64 0),.val
 (.int .i64 0),.val (.str ⟨#[]⟩)] [(0,1,.t 59),(1,1,.t 61),(2,1,.t 63)])) (.step 7 (o 10 (.alloc [.val (.int .i64 0),.val (.int .i64 0),.val (.str ⟨#[]⟩)])) [0,1,2,3,
 6] (.step 8 (n (.store 3 (.t 10) (.t 64))) [] .done))) (.alt 7 (o 10 (.alloc [.val (.int .i64 0),.val (.int .i64 0),.val (.str ⟨#[]⟩)])) [0,1,2,3,4] (.step 5 (o 63 (.call 177
 [.t 62])) [0,1,2,3] (.early 6 (o 64 (.build [.val (.int .i64 0),.val (.int .i64 0),.val (.str ⟨#[]⟩)] [(0,1,.t 59),(1,1,.t 61),(2,1,.t 63)])) (.step 8 (n (.store 3 (.t
 10) (.t 64))) [] .done))) .stop)))))))) (.seq (.draw [o 65 (.load true 3 (.t 10)),o 66 (.load true 3 (.t 10)),o 67 (.call 178 [.t 66])] [n (.store 3 (.t 2) (.t 65)),m 3 67])
 (.ret)))))))
theorem ok117:K5 Tryz.prog 117 ir117 1 [.c 2 true 3,.t 3]=true:=by kernel_rfl
def ir57:PC:=.seq (.reg [o 2 (.mov (.k (.emp 3))),o 3 (.mov (i 0))]) (.seq (.reg [m 11 0,o 12 (.call 103 [.t 11]),m 10 12,o 13 (.ext 0 (.t 10)),o 14 (.ext 1 (.t 10)),o 4
 (.alloc [.val (.int .i64 0),.val (.int .i64 0),.val (.str ⟨#[]⟩),.emp 1,.emp 5]),n (.store 5 (.t 4) (.t 13)),m 5 14]) (.seq (.seq (.reg [m 15 5,o 16 (.bin .neq (.t 15) (i
 0))]) (.cond (.t 16) (.seq (.reg [o 17 (.lit 94 3 []),m 18 5,m 2 17,m 3 18]) (.ret)) (.skip))) (.seq (.seq (.reg [o 19 (.faddr 0 (.t 4)),l 20 19,o 21 (.bin .neq (.t 20) (i
 5))]) (.cond (.t 21) (.seq (.reg [o 22 (.lit 94 3 []),m 2 22,o 3 (.mov (i 9))]) (.ret)) (.skip))) (.seq (.seq (.reg [o 23 (.faddr 4 (.t 4)),l 24 23,o 25 (.len (.t 24)),o 26
 (.bin .gtr (.t 25) (i 3))]) (.cond (.t 26) (.seq (.reg [o 27 (.lit 94 3 []),m 2 27,o 3 (.mov (i 6))]) (.ret)) (.skip))) (.seq (.reg [o 28 (.lit 94 3 []),m 6 28]) (.seq (.seq
 (.reg [o 7 (.mov (i 0))]) (.block 0 (.loop (.ghost (.seq (.seq (.reg [m 29 7,o 30 (.faddr 4 (.t 4)),l 31 30,o 32 (.len (.t 31)),o 33 (.bin .lss (.t 29) (.t 32))]) (.cond (.t
 33) (.skip) (.exit 0))) (.seq (.block 1 (.seq (.reg [o 37 (.faddr 4 (.t 4)),l 38 37,m 39 7,o 40 (.iaddr 5 (.t 38) (.t 39)),o 41 (.load true 5 (.t 40)),o 42 (.call 117 [.t
 41]),m 36 42,o 43 (.ext 0 (.t 36)),o 44 (.ext 1 (.t 36)),o 8 (.alloc [.val (.int .i64 0),.val (.int .i64 0),.val (.str ⟨#[]⟩)]),n (.store 3 (.t 8) (.t 43)),m 9 44]) (.seq
 (.seq (.reg [m 45 9,o 46 (.un .not (.t 45))]) (.cond (.t 46) (.seq (.reg [o 47 (.lit 94 3 []),m 2 47,o 3 (.mov (i 3))]) (.ret)) (.skip))) (.reg [m 48 6,o 49 (.load true 3 (.t
 8)),o 50 (.lit 94 3 [.t 49]),o 51 (.app 94 3 32 (.t 48) (.t 50)),m 6 51])))) (.reg [m 34 7,o 35 (.bin .add (.t 34) (i 1)),m 7 35]))))))) (.seq (.reg [m 52 6,m 2 52,o 3 (.mov
 (i 0))]) (.ret))))))))
theorem ok57:K5 Tryz.prog 57 ir57 1 [.t 2,.t 3]=true:=by kernel_rfl
def ir12:PC:=.seq (.reg [o 2 (.mov (.k (.emp 3))),o 3 (.mov (i 0))]) (.seq (.reg [m 17 0,o 18 (.call 58 [.t 17]),m 16 18,o 19 (.ext 0 (.t 16)),o 20 (.ext 1 (.t 16)),o 4
 (.alloc [.val (.int .i64 0),.val (.int .i64 0),.val (.str ⟨#[]⟩),.emp 1,.emp 5]),n (.store 5 (.t 4) (.t 19)),m 5 20]) (.seq (.block 0 (.seq (.reg [m 22 5,o 23 (.bin .neq (.t
 22) (i 0)),m 21 23]) (.cond (.t 21) (.seq (.reg [m 24 5,o 2 (.mov (.k (.emp 3))),m 3 24]) (.ret)) (.seq (.reg [o 26 (.faddr 0 (.t 4)),l 27 26,o 28 (.bin .neq (.t 27) (i 5)),m
 25 28]) (.cond (.t 25) (.seq (.reg [o 2 (.mov (.k (.emp 3))),o 3 (.mov (i 9))]) (.ret)) (.seq (.reg [o 30 (.faddr 4 (.t 4)),l 31 30,o 32 (.len (.t 31)),o 33 (.bin .gtr (.t 32)
 (i 3)),m 29 33]) (.cond (.t 29) (.seq (.reg [o 2 (.mov (.k (.emp 3))),o 3 (.mov (i 6))]) (.ret)) (.skip)))))))) (.seq (.reg [o 34 (.lit 94 3 []),m 6 34]) (.seq (.seq (.reg [o 35
 (.faddr 4 (.t 4)),l 36 35,o 37 (.len (.t 36)),o 38 (.mov (i 0))]) (.block 1 (.loop (.ghost (.seq (.reg [o 39 (.bin .lss (.t 38) (.t 37))]) (.seq (.cond (.t 39) (.skip) (.exit
 1)) (.seq (.block 2 (.seq (.reg [o 40 (.iaddr 5 (.t 36) (.t 38)),o 41 (.load true 5 (.t 40)),o 8 (.alloc [.val (.int .i64 0),.val (.int .i64 0),.val (.str ⟨#[]⟩),.emp 1,.emp
 5]),n (.store 5 (.t 8) (.t 41))]) (.seq (.reg [o 43 (.load true 5 (.t 8)),o 44 (.call 59 [.t 43,.k (.val (.str ⟨#[97,103,101]⟩))]),m 42 44,o 45 (.ext 0 (.t 42)),o 46 (.ext
 1 (.t 42)),o 9 (.alloc [.val (.int .i64 0),.val (.int .i64 0),.val (.str ⟨#[]⟩),.emp 1,.emp 5]),n (.store 5 (.t 9) (.t 45)),m 10 46]) (.seq (.reg [o 48 (.load true 5 (.t
 8)),o 49 (.call 59 [.t 48,.k (.val (.str ⟨#[98,111,100,121]⟩))]),m 47 49,o 50 (.ext 0 (.t 47)),o 51 (.ext 1 (.t 47)),o 11 (.alloc [.val (.int .i64 0),.val (.int .i64 0),
 .val (.str ⟨#[]⟩),.emp 1,.emp 5]),n (.store 5 (.t 11) (.t 50)),m 12 51]) (.seq (.reg [o 53 (.load true 5 (.t 8)),o 54 (.call 59 [.t 53,.k (.val (.str ⟨#[105,100]⟩))]),m 52
 54,o 55 (.ext 0 (.t 52)),o 56 (.ext 1 (.t 52)),o 13 (.alloc [.val (.int .i64 0),.val (.int .i64 0),.val (.str ⟨#[]⟩),.emp 1,.emp 5]),n (.store 5 (.t 13) (.t 55)),m 14 56])
 (.seq (.mix (.early 0 (o 57 (.faddr 1 (.t 13))) (.early 1 (l 58 57) (.early 2 (o 59 (.faddr 1 (.t 9))) (.early 3 (l 60 59) (.early 4 (o 61 (.load true 5 (.t 11))) (.alt 5 (o 62
 (.call 60 [.t 61])) [0,1,2,3] (.early 6 (o 63 (.build [.val (.int .i64 0),.val (.int .i64 0),.val (.str ⟨#[]⟩)] [(0,1,.t 58),(1,1,.t 60),(2,1,.t 62)])) (.step 7 (o 15
 (.alloc [.val (.int .i64 0),.val (.int .i64 0),.val (.str ⟨#[]⟩)])) [0,1,2,3,6] (.step 8 (n (.store 3 (.t 15) (.t 63))) [] .done))) (.alt 7 (o 15 (.alloc [.val (.int .i64 0),
 .val (.int .i64 0),.val (.str ⟨#[]⟩)])) [0,1,2,3,4] (.step 5 (o 62 (.call 60 [.t 61])) [0,1,2,3] (.early 6 (o 63 (.build [.val (.int .i64 0),.val (.int .i64 0),.val (.str
 ⟨#[]⟩)] [(0,1,.t 58),(1,1,.t 60),(2,1,.t 62)])) (.step 8 (n (.store 3 (.t 15) (.t 63))) [] .done))) .stop)))))))) (.seq (.seq (.reg [o 64 (.faddr 0 (.t 8)),l 65 64,o 66
 (.bin .neq (.t 65) (i 6)),m 67 66,g 68 67 false (.faddr 4 (.t 8)),g 69 67 false (.load false 1 (.t 68)),g 70 67 false (.len (.t 69)),g 71 67 false (.bin .neq (.t 70) (i 3)),o
 72 (.pick (.t 67) T (.t 71)),m 73 72,g 74 73 false (.mov (.t 10)),g 75 73 false (.un .not (.t 74)),o 76 (.pick (.t 73) T (.t 75)),m 77 76,g 78 77 false (.mov (.t 12)),g 79
 77 false (.un .not (.t 78)),o 80 (.pick (.t 77) T (.t 79)),m 81 80,g 82 81 false (.mov (.t 14)),g 83 81 false (.un .not (.t 82)),o 84 (.pick (.t 81) T (.t 83)),m 85 84,g 86
 85 false (.faddr 0 (.t 9)),g 87 85 false (.load false 1 (.t 86)),g 88 85 false (.bin .neq (.t 87) (i 3)),o 89 (.pick (.t 85) T (.t 88)),m 90 89,g 91 90 false (.faddr 0 (.t
 13)),g 92 90 false (.load false 1 (.t 91)),g 93 90 false (.bin .neq (.t 92) (i 3)),o 94 (.pick (.t 90) T (.t 93)),m 95 94,g 96 95 false (.faddr 0 (.t 11)),g 97 95 false
 (.load false 1 (.t 96)),g 98 95 false (.bin .neq (.t 97) (i 6)),o 99 (.pick (.t 95) T (.t 98)),m 100 99,g 101 100 false (.load true 3 (.t 15)),g 102 100 false (.call 61 [.t
 101]),g 103 100 false (.un .not (.t 102)),o 104 (.pick (.t 100) T (.t 103))]) (.cond (.t 104) (.seq (.reg [o 2 (.mov (.k (.emp 3))),o 3 (.mov (i 3))]) (.ret)) (.skip))) (.reg [m
 105 6,o 106 (.load true 3 (.t 15)),o 107 (.lit 94 3 [.t 106]),o 108 (.app 94 3 32 (.t 105) (.t 107)),m 6 108])))))))) (.reg [o 109 (.bin .add (.t 38) (i 1)),m 38 109]))))))))
 (.seq (.reg [m 110 6,m 2 110,o 3 (.mov (i 0))]) (.ret))))))
theorem ok12:K5 Tryz.prog 12 ir12 1 [.t 2,.t 3]=true:=by kernel_rfl
end Go.Proofs
end
section
namespace Go.Proofs
open Go.PW Go.PW.I
end Go.Proofs
end
section
namespace Go.Proofs
open Go.PW Go.PW.I
def ir21:PC:=.seq (.reg [o 2 (.box (.t 0)),o 4 (.mov (i 0))]) (.seq (.reg [o 5 (.faddr 4 (.t 2)),l 6 5,m 7 1,o 8 (.callr 69 (.t 6) [.t 7]),m 1 8]) (.seq (.reg [m 9 1,m 4
 9]) (.ret)))
theorem ok21:K5 Tryz.prog 21 ir21 2 [.t 4]=true:=by kernel_rfl
def ir17:PC:=.seq (.reg [o 1 (.box (.t 0)),o 2 (.mov (.k (.emp 3))),o 3 (.mov (i 0))]) (.seq (.seq (.reg [o 8 (.faddr 5 (.t 1)),l 9 8,o 10 (.lens (.t 9)),o 11 (.bin .gtr
 (.t 10) (i 65536)),m 12 11,g 13 12 false (.faddr 4 (.t 1)),g 14 12 false (.load false 1 (.t 13)),g 15 12 false (.len (.t 14)),g 16 12 false (.bin .gtr (.t 15) (i 4096)),o 17
 (.pick (.t 12) T (.t 16))]) (.cond (.t 17) (.seq (.reg [o 18 (.lit 94 3 []),m 2 18,o 3 (.mov (i 1))]) (.ret)) (.skip))) (.seq (.reg [o 20 (.faddr 5 (.t 1)),l 21 20,o 22 (.call
 57 [.t 21]),m 19 22,o 23 (.ext 0 (.t 19)),o 24 (.ext 1 (.t 19)),m 4 23,m 5 24]) (.seq (.seq (.reg [m 25 5,o 26 (.bin .neq (.t 25) (i 0))]) (.cond (.t 26) (.seq (.reg [o 27
 (.lit 94 3 []),m 28 5,m 2 27,m 3 28]) (.ret)) (.skip))) (.seq (.reg [o 29 (.lit 3 1 []),m 6 29]) (.seq (.seq (.reg [o 7 (.mov (i 0))]) (.block 0 (.loop (.ghost (.seq (.seq
 (.reg [m 30 7,m 31 4,o 32 (.len (.t 31)),o 33 (.bin .lss (.t 30) (.t 32))]) (.cond (.t 33) (.skip) (.exit 0))) (.seq (.block 1 (.reg [m 36 6,m 37 4,m 38 7,o 39 (.iaddr 3 (.t
 37) (.t 38)),o 40 (.faddr 0 (.t 39)),l 41 40,o 42 (.lit 3 1 [.t 41]),o 43 (.app 3 1 8 (.t 36) (.t 42)),m 6 43])) (.reg [m 34 7,o 35 (.bin .add (.t 34) (i 1)),m 7 35])))))))
 (.seq (.seq (.reg [m 44 6,o 45 (.faddr 4 (.t 1)),l 46 45,o 47 (.call 65 [.t 44,.t 46]),o 48 (.un .not (.t 47))]) (.cond (.t 48) (.seq (.reg [o 49 (.lit 94 3 []),m 2 49,o 3
 (.mov (i 16))]) (.ret)) (.skip))) (.seq (.reg [m 50 4,m 2 50,o 3 (.mov (i 0))]) (.ret))))))))
theorem ok17:K5 Tryz.prog 17 ir17 1 [.t 2,.t 3]=true:=by kernel_rfl
def ir19:PC:=.seq (.reg [o 1 (.box (.t 0)),o 2 (.mov (.k (.emp 3))),o 3 (.mov (i 0))]) (.seq (.seq (.reg [o 9 (.faddr 5 (.t 1)),l 10 9,o 11 (.lens (.t 10)),o 12 (.bin .gtr
 (.t 11) (i 65536)),m 13 12,g 14 13 false (.faddr 4 (.t 1)),g 15 13 false (.load false 1 (.t 14)),g 16 13 false (.len (.t 15)),g 17 13 false (.bin .gtr (.t 16) (i 4096)),o 18
 (.pick (.t 13) T (.t 17))]) (.cond (.t 18) (.seq (.reg [o 2 (.mov (.k (.emp 3))),o 3 (.mov (i 1))]) (.ret)) (.skip))) (.seq (.reg [o 20 (.faddr 5 (.t 1)),l 21 20,o 22 (.call 12
 [.t 21]),m 19 22,o 23 (.ext 0 (.t 19)),o 24 (.ext 1 (.t 19)),m 4 23,m 5 24]) (.seq (.seq (.reg [m 25 5,o 26 (.bin .neq (.t 25) (i 0))]) (.cond (.t 26) (.seq (.reg [m 27 5,o
 2 (.mov (.k (.emp 3))),m 3 27]) (.ret)) (.skip))) (.seq (.reg [o 28 (.lit 3 1 []),m 6 28]) (.seq (.seq (.reg [m 29 4,o 30 (.len (.t 29)),o 31 (.mov (i 0))]) (.block 0 (.loop
 (.ghost (.seq (.reg [o 32 (.bin .lss (.t 31) (.t 30))]) (.seq (.cond (.t 32) (.skip) (.exit 0)) (.seq (.block 1 (.seq (.reg [o 33 (.iaddr 3 (.t 29) (.t 31)),o 34 (.load true 3 (.t
 33)),o 8 (.alloc [.val (.int .i64 0),.val (.int .i64 0),.val (.str ⟨#[]⟩)]),n (.store 3 (.t 8) (.t 34))]) (.reg [m 35 6,o 36 (.faddr 0 (.t 8)),l 37 36,o 38 (.lit 3 1 [.t
 37]),o 39 (.app 3 1 8 (.t 35) (.t 38)),m 6 39]))) (.reg [o 40 (.bin .add (.t 31) (i 1)),m 31 40])))))))) (.seq (.seq (.reg [m 41 6,o 42 (.faddr 4 (.t 1)),l 43 42,o 44 (.call
 67 [.t 41,.t 43]),o 45 (.un .not (.t 44))]) (.cond (.t 45) (.seq (.reg [o 2 (.mov (.k (.emp 3))),o 3 (.mov (i 16))]) (.ret)) (.skip))) (.seq (.reg [m 46 4,m 2 46,o 3 (.mov (i
 0))]) (.ret))))))))
theorem ok19:K5 Tryz.prog 19 ir19 1 [.t 2,.t 3]=true:=by kernel_rfl
end Go.Proofs
end
section
namespace Go.Proofs
open Go.PW Go.PW.I
def ir31:PC:=.seq (.reg [o 2 (.box (.t 0)),o 4 (.mov (i 0))]) (.seq (.reg [o 5 (.faddr 0 (.t 2)),l 6 5,m 7 1,o 8 (.call 64 [.t 6,.t 7]),m 1 8]) (.seq (.seq (.reg [m 9 1,o
 10 (.bin .lss (.t 9) (i 0))]) (.cond (.t 10) (.seq (.reg [o 4 (.mov (i (-1)))]) (.ret)) (.skip))) (.seq (.reg [o 11 (.faddr 1 (.t 2)),l 12 11,m 13 1,o 14 (.call 64 [.t 12,.t
 13]),m 1 14]) (.seq (.seq (.reg [m 15 1,o 16 (.bin .lss (.t 15) (i 0))]) (.cond (.t 16) (.seq (.reg [o 4 (.mov (i (-1)))]) (.ret)) (.skip))) (.seq (.reg [o 17 (.faddr 2 (.t 2)),
 l 18 17,m 19 1,o 20 (.call 77 [.t 18,.t 19]),m 1 20]) (.seq (.seq (.reg [m 21 1,o 22 (.bin .lss (.t 21) (i 0))]) (.cond (.t 22) (.seq (.reg [o 4 (.mov (i (-1)))]) (.ret))
 (.skip))) (.seq (.reg [m 23 1,m 4 23]) (.ret))))))))
theorem ok31:K5 Tryz.prog 31 ir31 2 [.t 4]=true:=by kernel_rfl
def ir33:PC:=.seq (.reg [o 1 (.box (.t 0)),o 2 (.alloc [.emp 1,.emp 1,.emp 1])]) (.seq (.reg [o 3 (.alloc [.emp 1,.emp 1,.emp 1])]) (.seq (.reg [o 4 (.faddr 0 (.t 1)),l 5
 4,o 6 (.call 66 [.t 5]),o 7 (.faddr 0 (.t 3)),n (.store 1 (.t 7) (.t 6))]) (.seq (.reg [o 8 (.faddr 1 (.t 1)),l 9 8,o 10 (.call 66 [.t 9]),o 11 (.faddr 1 (.t 3)),n (.store 1
 (.t 11) (.t 10))]) (.seq (.reg [o 12 (.faddr 2 (.t 1)),l 13 12,o 14 (.call 81 [.t 13]),o 15 (.faddr 2 (.t 3)),n (.store 1 (.t 15) (.t 14))]) (.seq (.reg [o 16 (.load true 3 (.t
 3)),n (.store 3 (.t 2) (.t 16))]) (.ret))))))
theorem ok33:K5 Tryz.prog 33 ir33 1 [.c 2 true 3]=true:=by kernel_rfl
def ir26:PC:=.seq (.reg [o 2 (.box (.t 0)),o 3 (.box (.t 1)),o 4 (.mov F)]) (.seq (.seq (.reg [o 5 (.faddr 0 (.t 2)),l 6 5,o 7 (.faddr 0 (.t 3)),l 8 7,o 9 (.call 68 [.t 6,
 .t 8]),o 10 (.un .not (.t 9))]) (.cond (.t 10) (.seq (.reg [o 4 (.mov F)]) (.ret)) (.skip))) (.seq (.seq (.reg [o 11 (.faddr 1 (.t 2)),l 12 11,o 13 (.faddr 1 (.t 3)),l 14 13,o
 15 (.call 68 [.t 12,.t 14]),o 16 (.un .not (.t 15))]) (.cond (.t 16) (.seq (.reg [o 4 (.mov F)]) (.ret)) (.skip))) (.seq (.seq (.reg [o 17 (.faddr 2 (.t 2)),l 18 17,o 19
 (.faddr 2 (.t 3)),l 20 19,o 21 (.call 73 [.t 18,.t 20]),o 22 (.un .not (.t 21))]) (.cond (.t 22) (.seq (.reg [o 4 (.mov F)]) (.ret)) (.skip))) (.seq (.reg [o 4 (.mov T)])
 (.ret)))))
theorem ok26:K5 Tryz.prog 26 ir26 2 [.t 4]=true:=by kernel_rfl
def ir29:PC:=.seq (.reg [o 2 (.box (.t 0)),o 4 (.mov (i 0))]) (.seq (.reg [o 5 (.faddr 0 (.t 2)),l 6 5,m 7 1,o 8 (.callr 69 (.t 6) [.t 7]),m 1 8]) (.seq (.reg [o 9 (.faddr
 1 (.t 2)),l 10 9,m 11 1,o 12 (.callr 69 (.t 10) [.t 11]),m 1 12]) (.seq (.reg [o 13 (.faddr 2 (.t 2)),l 14 13,m 15 1,o 16 (.callr 74 (.t 14) [.t 15]),m 1 16]) (.seq (.reg
 [m 17 1,m 4 17]) (.ret)))))
theorem ok29:K5 Tryz.prog 29 ir29 2 [.t 4]=true:=by kernel_rfl
def ir30:PC:=.seq (.reg [o 2 (.box (.t 0)),o 4 (.mov (i 0))]) (.seq (.reg [o 5 (.faddr 0 (.t 2)),l 6 5,m 7 1,o 8 (.call 75 [.t 6,.t 7]),m 1 8]) (.seq (.seq (.reg [m 9 1,o
 10 (.bin .lss (.t 9) (i 0))]) (.cond (.t 10) (.seq (.reg [o 4 (.mov (i (-1)))]) (.ret)) (.skip))) (.seq (.reg [o 11 (.faddr 1 (.t 2)),l 12 11,m 13 1,o 14 (.call 75 [.t 12,.t
 13]),m 1 14]) (.seq (.seq (.reg [m 15 1,o 16 (.bin .lss (.t 15) (i 0))]) (.cond (.t 16) (.seq (.reg [o 4 (.mov (i (-1)))]) (.ret)) (.skip))) (.seq (.reg [o 17 (.faddr 2 (.t 2)),
 l 18 17,m 19 1,o 20 (.call 76 [.t 18,.t 19]),m 1 20]) (.seq (.seq (.reg [m 21 1,o 22 (.bin .lss (.t 21) (i 0))]) (.cond (.t 22) (.seq (.reg [o 4 (.mov (i (-1)))]) (.ret))
 (.skip))) (.seq (.reg [m 23 1,m 4 23]) (.ret))))))))
theorem ok30:K5 Tryz.prog 30 ir30 2 [.t 4]=true:=by kernel_rfl
def ir78:PC:=.seq (.reg [o 1 (.box (.t 0)),o 2 (.mov F)]) (.seq (.reg [o 5 (.faddr 0 (.t 1)),l 6 5,o 7 (.len (.t 6)),m 3 7]) (.seq (.seq (.reg [m 8 3,o 9 (.bin .gtr (.t 8)
 (i 4096)),m 10 9,g 11 10 false (.faddr 1 (.t 1)),g 12 10 false (.load false 1 (.t 11)),g 13 10 false (.len (.t 12)),g 14 10 false (.mov (.t 3)),g 15 10 false (.bin .neq (.t
 13) (.t 14)),o 16 (.pick (.t 10) T (.t 15)),m 17 16,g 18 17 false (.faddr 2 (.t 1)),g 19 17 false (.load false 1 (.t 18)),g 20 17 false (.len (.t 19)),g 21 17 false (.mov (.t
 3)),g 22 17 false (.bin .neq (.t 20) (.t 21)),o 23 (.pick (.t 17) T (.t 22))]) (.cond (.t 23) (.seq (.reg [o 2 (.mov F)]) (.ret)) (.skip))) (.seq (.seq (.reg [o 4 (.mov (i 0))])
 (.block 0 (.loop (.ghost (.seq (.seq (.reg [m 24 4,m 25 3,o 26 (.bin .lss (.t 24) (.t 25))]) (.cond (.t 26) (.skip) (.exit 0))) (.seq (.block 1 (.seq (.draw [o 29 (.faddr 0 (.t
 1)),l 30 29,m 31 4,o 32 (.iaddr 1 (.t 30) (.t 31)),l 33 32,o 34 (.call 129 [.t 33,.k (.val (.int .i64 1)),.k (.val (.int .i64 1000000))]),o 35 (.un .not (.t 34)),m 36 35,
 g 37 36 false (.faddr 1 (.t 1)),g 38 36 false (.load false 1 (.t 37)),g 39 36 false (.mov (.t 4)),g 40 36 false (.iaddr 1 (.t 38) (.t 39)),g 41 36 false (.load false 1 (.t
 40)),g 42 36 false (.call 129 [.t 41,.k (.val (.int .i64 1)),.k (.val (.int .i64 1000000))]),g 43 36 false (.un .not (.t 42)),o 44 (.pick (.t 36) T (.t 43)),m 45 44,g 46 45
 false (.faddr 2 (.t 1)),g 47 45 false (.load false 1 (.t 46)),g 48 45 false (.mov (.t 4)),g 49 45 false (.iaddr 1 (.t 47) (.t 48)),g 50 45 false (.load false 1 (.t 49)),g 51
 45 false (.lens (.t 50)),g 52 45 false (.bin .gtr (.t 51) (i 8000)),o 53 (.pick (.t 45) T (.t 52)),m 54 53,g 55 54 false (.load true 3 (.t 1)),g 56 54 false (.faddr 0 (.t 1)),
 g 57 54 false (.load false 1 (.t 56)),g 58 54 false (.mov (.t 4)),g 59 54 false (.iaddr 1 (.t 57) (.t 58)),g 60 54 false (.load false 1 (.t 59)),g 61 54 false (.call 130 [.t
 55,.t 60]),g 62 54 false (.mov (.t 4)),g 63 54 false (.bin .neq (.t 61) (.t 62)),o 64 (.pick (.t 54) T (.t 63))] []) (.cond (.t 64) (.seq (.reg [o 2 (.mov F)]) (.ret))
 (.skip)))) (.reg [m 27 4,o 28 (.bin .add (.t 27) (i 1)),m 4 28]))))))) (.seq (.reg [o 2 (.mov T)]) (.ret)))))
theorem ok78:K5 Tryz.prog 78 ir78 1 [.t 2]=true:=by kernel_rfl
def ir130:PC:=.seq (.reg [o 2 (.box (.t 0)),o 4 (.mov (i 0))]) (.seq (.seq (.reg [o 5 (.mov (i 0))]) (.block 0 (.loop (.ghost (.seq (.seq (.reg [m 6 5,o 7 (.faddr 0 (.t 2)),l
 8 7,o 9 (.len (.t 8)),o 10 (.bin .lss (.t 6) (.t 9))]) (.cond (.t 10) (.skip) (.exit 0))) (.seq (.block 1 (.seq (.reg [o 13 (.faddr 0 (.t 2)),l 14 13,m 15 5,o 16 (.iaddr 1 (.t
 14) (.t 15)),l 17 16,m 18 1,o 19 (.bin .eql (.t 17) (.t 18))]) (.cond (.t 19) (.seq (.reg [m 20 5,m 4 20]) (.ret)) (.skip)))) (.reg [m 11 5,o 12 (.bin .add (.t 11) (i 1)),m 5
 12]))))))) (.seq (.reg [o 4 (.mov (i (-1)))]) (.ret)))
theorem ok130:K5 Tryz.prog 130 ir130 2 [.t 4]=true:=by kernel_rfl
def ir80:PC:=.seq (.reg [o 1 (.box (.t 0)),o 2 (.alloc [.emp 1,.emp 1,.emp 1])]) (.seq (.mix (.early 1 (o 4 (.faddr 0 (.t 1))) (.early 2 (l 5 4) (.early 5 (o 8 (.faddr 1 (.t
 1))) (.early 6 (l 9 8) (.early 9 (o 12 (.faddr 2 (.t 1))) (.early 10 (l 13 12) (.alt 0 (o 3 (.lit 3 1 [])) [1,2,5,6,9,10] (.alt 3 (o 6 (.app 3 1 8 (.t 3) (.t 5))) [5,6,9,
 10] (.alt 4 (o 7 (.lit 3 1 [])) [5,6,9,10] (.alt 7 (o 10 (.app 3 1 8 (.t 7) (.t 9))) [9,10] (.step 8 (o 11 (.lit 9 1 [])) [9,10] (.step 11 (o 14 (.app 9 1 16 (.t 11) (.t 13)))
 [] (.early 12 (o 15 (.build [.emp 1,.emp 1,.emp 1] [(0,1,.t 6),(1,1,.t 10),(2,1,.t 14)])) (.step 13 (n (.store 3 (.t 2) (.t 15))) [] .done)))) (.alt 8 (o 11 (.lit 9 1
 [])) [5,6,9,10] (.step 7 (o 10 (.app 3 1 8 (.t 7) (.t 9))) [9,10] (.step 11 (o 14 (.app 9 1 16 (.t 11) (.t 13))) [] (.early 12 (o 15 (.build [.emp 1,.emp 1,.emp 1] [(0,1,.t
 6),(1,1,.t 10),(2,1,.t 14)])) (.step 13 (n (.store 3 (.t 2) (.t 15))) [] .done)))) .stop)) (.alt 8 (o 11 (.lit 9 1 [])) [5,6,9,10] (.step 4 (o 7 (.lit 3 1 [])) [5,6,9,
 10] (.step 7 (o 10 (.app 3 1 8 (.t 7) (.t 9))) [9,10] (.step 11 (o 14 (.app 9 1 16 (.t 11) (.t 13))) [] (.early 12 (o 15 (.build [.emp 1,.emp 1,.emp 1] [(0,1,.t 6),(1,1,.t
 10),(2,1,.t 14)])) (.step 13 (n (.store 3 (.t 2) (.t 15))) [] .done))))) .stop)) (.alt 4 (o 7 (.lit 3 1 [])) [1,2,5,6,9,10] (.alt 3 (o 6 (.app 3 1 8 (.t 3) (.t 5))) [5,6,
 9,10] (.alt 7 (o 10 (.app 3 1 8 (.t 7) (.t 9))) [9,10] (.step 8 (o 11 (.lit 9 1 [])) [9,10] (.step 11 (o 14 (.app 9 1 16 (.t 11) (.t 13))) [] (.early 12 (o 15 (.build [.emp 1,
 .emp 1,.emp 1] [(0,1,.t 6),(1,1,.t 10),(2,1,.t 14)])) (.step 13 (n (.store 3 (.t 2) (.t 15))) [] .done)))) (.alt 8 (o 11 (.lit 9 1 [])) [5,6,9,10] (.step 7 (o 10 (.app
 3 1 8 (.t 7) (.t 9))) [9,10] (.step 11 (o 14 (.app 9 1 16 (.t 11) (.t 13))) [] (.early 12 (o 15 (.build [.emp 1,.emp 1,.emp 1] [(0,1,.t 6),(1,1,.t 10),(2,1,.t 14)]))
 (.step 13 (n (.store 3 (.t 2) (.t 15))) [] .done)))) .stop)) (.alt 8 (o 11 (.lit 9 1 [])) [1,2,5,6,9,10] (.step 3 (o 6 (.app 3 1 8 (.t 3) (.t 5))) [5,6,9,10] (.step 7 (o 10
 (.app 3 1 8 (.t 7) (.t 9))) [9,10] (.step 11 (o 14 (.app 9 1 16 (.t 11) (.t 13))) [] (.early 12 (o 15 (.build [.emp 1,.emp 1,.emp 1] [(0,1,.t 6),(1,1,.t 10),(2,1,.t
 14)])) (.step 13 (n (.store 3 (.t 2) (.t 15))) [] .done))))) .stop)) (.alt 8 (o 11 (.lit 9 1 [])) [1,2,5,6,9,10] (.alt 3 (o 6 (.app 3 1 8 (.t 3) (.t 5))) [5,6,9,10] (.step
 4 (o 7 (.lit 3 1 [])) [5,6,9,10] (.step 7 (o 10 (.app 3 1 8 (.t 7) (.t 9))) [9,10] (.step 11 (o 14 (.app 9 1 16 (.t 11) (.t 13))) [] (.early 12 (o 15 (.build [.emp 1,.emp 1,
 .emp 1] [(0,1,.t 6),(1,1,.t 10),(2,1,.t 14)])) (.step 13 (n (.store 3 (.t 2) (.t 15))) [] .done))))) (.alt 4 (o 7 (.lit 3 1 [])) [1,2,5,6,9,10] (.step 3 (o 6 (.app 3 1
 8 (.t 3) (.t 5))) [5,6,9,10] (.step 7 (o 10 (.app 3 1 8 (.t 7) (.t 9))) [9,10] (.step 11 (o 14 (.app 9 1 16 (.t 11) (.t 13))) [] (.early 12 (o 15 (.build [.emp 1,.emp 1,.emp
 1] [(0,1,.t 6),(1,1,.t 10),(2,1,.t 14)])) (.step 13 (n (.store 3 (.t 2) (.t 15))) [] .done))))) .stop)) .stop))) (.alt 4 (o 7 (.lit 3 1 [])) [1,2,5,6,9,10] (.alt 0 (o
 3 (.lit 3 1 [])) [1,2,5,6,9,10] (.alt 3 (o 6 (.app 3 1 8 (.t 3) (.t 5))) [5,6,9,10] (.alt 7 (o 10 (.app 3 1 8 (.t 7) (.t 9))) [9,10] (.step 8 (o 11 (.lit 9 1 [])) [9,10]
 (.step 11 (o 14 (.app 9 1 16 (.t 11) (.t 13))) [] (.early 12 (o 15 (.build [.emp 1,.emp 1,.emp 1] [(0,1,.t 6),(1,1,.t 10),(2,1,.t 14)])) (.step 13 (n (.store 3 (.t 2) (.t
 15))) [] .done)))) (.alt 8 (o 11 (.lit 9 1 [])) [5,6,9,10] (.step 7 (o 10 (.app 3 1 8 (.t 7) (.t 9))) [9,10] (.step 11 (o 14 (.app 9 1 16 (.t 11) (.t 13))) [] (.early 12 (o 15
 (.build [.emp 1,.emp 1,.emp 1] [(0,1,.t 6),(1,1,.t 10),(2,1,.t 14)])) (.step 13 (n (.store 3 (.t 2) (.t 15))) [] .done)))) .stop)) (.alt 8 (o 11 (.lit 9 1 [])) [1,2,5,
 6,9,10] (.step 3 (o 6 (.app 3 1 8 (.t 3) (.t 5))) [5,6,9,10] (.step 7 (o 10 (.app 3 1 8 (.t 7) (.t 9))) [9,10] (.step 11 (o 14 (.app 9 1 16 (.t 11) (.t 13))) [] (.early 12 (o
 15 (.build [.emp 1,.emp 1,.emp 1] [(0,1,.t 6),(1,1,.t 10),(2,1,.t 14)])) (.step 13 (n (.store 3 (.t 2) (.t 15))) [] .done))))) .stop)) (.alt 8 (o 11 (.lit 9 1 [])) [1,2,
 5,6,9,10] (.step 0 (o 3 (.lit 3 1 [])) [1,2,5,6,9,10] (.step 3 (o 6 (.app 3 1 8 (.t 3) (.t 5))) [5,6,9,10] (.step 7 (o 10 (.app 3 1 8 (.t 7) (.t 9))) [9,10] (.step 11
 (o 14 (.app 9 1 16 (.t 11) (.t 13))) [] (.early 12 (o 15 (.build [.emp 1,.emp 1,.emp 1] [(0,1,.t 6),(1,1,.t 10),(2,1,.t 14)])) (.step 13 (n (.store 3 (.t 2) (.t 15))) []
 .done)))))) .stop)) (.alt 8 (o 11 (.lit 9 1 [])) [1,2,5,6,9,10] (.alt 0 (o 3 (.lit 3 1 [])) [1,2,5,6,9,10] (.alt 3 (o 6 (.app 3 1 8 (.t 3) (.t 5))) [5,6,9,10] (.step 4
 (o 7 (.lit 3 1 [])) [5,6,9,10] (.step 7 (o 10 (.app 3 1 8 (.t 7) (.t 9))) [9,10] (.step 11 (o 14 (.app 9 1 16 (.t 11) (.t 13))) [] (.early 12 (o 15 (.build [.emp 1,.emp 1,
 .emp 1] [(0,1,.t 6),(1,1,.t 10),(2,1,.t 14)])) (.step 13 (n (.store 3 (.t 2) (.t 15))) [] .done))))) (.alt 4 (o 7 (.lit 3 1 [])) [1,2,5,6,9,10] (.step 3 (o 6 (.app 3 1
 8 (.t 3) (.t 5))) [5,6,9,10] (.step 7 (o 10 (.app 3 1 8 (.t 7) (.t 9))) [9,10] (.step 11 (o 14 (.app 9 1 16 (.t 11) (.t 13))) [] (.early 12 (o 15 (.build [.emp 1,.emp 1,.emp
 1] [(0,1,.t 6),(1,1,.t 10),(2,1,.t 14)])) (.step 13 (n (.store 3 (.t 2) (.t 15))) [] .done))))) .stop)) (.alt 4 (o 7 (.lit 3 1 [])) [1,2,5,6,9,10] (.step 0 (o 3 (.lit
 3 1 [])) [1,2,5,6,9,10] (.step 3 (o 6 (.app 3 1 8 (.t 3) (.t 5))) [5,6,9,10] (.step 7 (o 10 (.app 3 1 8 (.t 7) (.t 9))) [9,10] (.step 11 (o 14 (.app 9 1 16 (.t 11) (.t
 13))) [] (.early 12 (o 15 (.build [.emp 1,.emp 1,.emp 1] [(0,1,.t 6),(1,1,.t 10),(2,1,.t 14)])) (.step 13 (n (.store 3 (.t 2) (.t 15))) [] .done)))))) .stop))
 .stop)))))))))) (.ret))
theorem ok80:K5 Tryz.prog 80 ir80 1 [.c 2 true 3]=true:=by kernel_rfl
def ir79:PC:=.seq (.reg [o 2 (.box (.t 0)),o 3 (.box (.t 1)),o 4 (.alloc [.emp 1,.emp 1,.emp 1]),o 5 (.mov (i 0))]) (.seq (.seq (.reg [o 11 (.faddr 1 (.t 3)),l 12 11,o 13
 (.bin .quo (.t 12) (i 100)),o 14 (.bin .neq (.t 13) (i 2))]) (.cond (.t 14) (.seq (.reg [o 15 (.load true 3 (.t 2)),n (.store 3 (.t 4) (.t 15)),o 5 (.mov (i 17))]) (.ret))
 (.skip))) (.seq (.reg [o 17 (.load true 7 (.t 3)),o 18 (.call 17 [.t 17]),m 16 18,o 19 (.ext 0 (.t 16)),o 20 (.ext 1 (.t 16)),m 6 19,m 7 20]) (.seq (.seq (.reg [m 21 7,o 22
 (.bin .neq (.t 21) (i 0))]) (.cond (.t 22) (.seq (.reg [o 23 (.load true 3 (.t 2)),m 24 7,n (.store 3 (.t 4) (.t 23)),m 5 24]) (.ret)) (.skip))) (.seq (.reg [o 25 (.load true 3
 (.t 2)),o 26 (.call 80 [.t 25]),o 8 (.alloc [.emp 1,.emp 1,.emp 1]),n (.store 3 (.t 8) (.t 26))]) (.seq (.seq (.reg [o 9 (.mov (i 0))]) (.block 0 (.loop (.ghost (.seq (.seq
 (.reg [m 27 9,m 28 6,o 29 (.len (.t 28)),o 30 (.bin .lss (.t 27) (.t 29))]) (.cond (.t 30) (.skip) (.exit 0))) (.seq (.block 1 (.seq (.draw [o 33 (.load true 3 (.t 8)),m 34 6,
 m 35 9,o 36 (.iaddr 3 (.t 34) (.t 35)),o 37 (.faddr 0 (.t 36)),l 38 37] [o 39 (.call 130 [.t 33,.t 38]),m 10 39]) (.block 2 (.seq (.reg [m 52 10,o 53 (.bin .lss (.t 52) (i
 0)),m 51 53]) (.cond (.t 51) (.seq (.mix (.early 0 (o 54 (.faddr 0 (.t 8))) (.early 1 (l 55 54) (.early 2 (m 56 6) (.early 3 (m 57 9) (.early 4 (o 58 (.iaddr 3 (.t 56) (.t 57)))
 (.early 5 (o 59 (.faddr 0 (.t 58))) (.early 6 (l 60 59) (.early 7 (o 61 (.lit 3 1 [.t 60])) (.step 8 (o 62 (.app 3 1 8 (.t 55) (.t 61))) [] (.early 9 (o 63 (.faddr 0 (.t 8)))
 (.step 10 (n (.store 1 (.t 63) (.t 62))) [] .done)))))))))))) (.seq (.reg [o 64 (.faddr 1 (.t 8)),l 65 64,o 66 (.lit 3 1 [.k (.val (.int .i64 1))]),o 67 (.app 3 1 8 (.t 65) (.t
 66)),o 68 (.faddr 1 (.t 8)),n (.store 1 (.t 68) (.t 67))]) (.mix (.early 0 (o 69 (.faddr 2 (.t 8))) (.early 1 (l 70 69) (.early 2 (m 71 6) (.early 3 (m 72 9) (.early 4 (o 73
 (.iaddr 3 (.t 71) (.t 72))) (.early 5 (o 74 (.faddr 2 (.t 73))) (.early 6 (l 75 74) (.early 7 (o 76 (.lit 9 1 [.t 75])) (.step 8 (o 77 (.app 9 1 16 (.t 70) (.t 76))) [] (.early 9
 (o 78 (.faddr 2 (.t 8))) (.step 10 (n (.store 1 (.t 78) (.t 77))) [] .done)))))))))))))) (.seq (.draw [o 80 (.faddr 2 (.t 8)),l 81 80,m 82 10,o 83 (.iaddr 1 (.t 81) (.t 82)),l
 84 83,m 85 6,m 86 9,o 87 (.iaddr 3 (.t 85) (.t 86)),o 88 (.faddr 2 (.t 87)),l 89 88,o 90 (.bin .neq (.t 84) (.t 89)),m 79 90] []) (.cond (.t 79) (.seq (.reg [o 91 (.load
 true 3 (.t 2)),n (.store 3 (.t 4) (.t 91)),o 5 (.mov (i 13))]) (.ret)) (.draw [o 40 (.faddr 1 (.t 8)),l 41 40,m 42 10,o 43 (.faddr 1 (.t 8)),l 44 43,m 45 10,o 46 (.iaddr 1
 (.t 44) (.t 45)),l 47 46,o 48 (.bin .add (.t 47) (i 1)),o 49 (.mn (.t 48) (i 1000000))] [o 50 (.iaddr 1 (.t 41) (.t 42)),n (.store 1 (.t 50) (.t 49))])))))))) (.reg [m 31 9,o
 32 (.bin .add (.t 31) (i 1)),m 9 32]))))))) (.seq (.seq (.reg [o 92 (.faddr 0 (.t 8)),l 93 92,o 94 (.len (.t 93)),o 95 (.bin .gtr (.t 94) (i 4096))]) (.cond (.t 95) (.seq (.reg
 [o 96 (.load true 3 (.t 2)),n (.store 3 (.t 4) (.t 96)),o 5 (.mov (i 7))]) (.ret)) (.skip))) (.seq (.reg [o 97 (.load true 3 (.t 8)),n (.store 3 (.t 4) (.t 97)),o 5 (.mov (i
 0))]) (.ret))))))))
theorem ok79:K5 Tryz.prog 79 ir79 2 [.c 4 true 3,.t 5]=true:=by kernel_rfl
def ir32:PC:=.seq (.reg [o 2 (.box (.t 0)),o 3 (.box (.t 1)),o 4 (.alloc [.emp 1,.emp 1,.emp 1]),o 5 (.mov (i 0))]) (.seq (.seq (.reg [o 8 (.load true 3 (.t 2)),o 9 (.call
 78 [.t 8]),o 10 (.un .not (.t 9))]) (.cond (.t 10) (.seq (.reg [o 11 (.build [.emp 1,.emp 1,.emp 1] []),n (.store 3 (.t 4) (.t 11)),o 5 (.mov (i 1))]) (.ret)) (.skip))) (.seq
 (.reg [o 13 (.load true 3 (.t 2)),o 14 (.load true 7 (.t 3)),o 15 (.call 79 [.t 13,.t 14]),m 12 15,o 16 (.ext 0 (.t 12)),o 17 (.ext 1 (.t 12)),o 6 (.alloc [.emp 1,.emp 1,
 .emp 1]),n (.store 3 (.t 6) (.t 16)),m 7 17]) (.seq (.reg [o 18 (.load true 3 (.t 6)),o 19 (.call 80 [.t 18]),m 20 7,n (.store 3 (.t 4) (.t 19)),m 5 20]) (.ret))))
theorem ok32:K5 Tryz.prog 32 ir32 2 [.c 4 true 3,.t 5]=true:=by kernel_rfl
def ir82:PC:=.seq (.reg [o 1 (.box (.t 0)),o 2 (.mov F)]) (.seq (.seq (.reg [o 6 (.faddr 0 (.t 1)),l 7 6,o 8 (.len (.t 7)),o 9 (.bin .gtr (.t 8) (i 4096)),m 10 9,g 11 10
 false (.faddr 1 (.t 1)),g 12 10 false (.load false 1 (.t 11)),g 13 10 false (.len (.t 12)),g 14 10 false (.faddr 0 (.t 1)),g 15 10 false (.load false 1 (.t 14)),g 16 10 false
 (.len (.t 15)),g 17 10 false (.bin .neq (.t 13) (.t 16)),o 18 (.pick (.t 10) T (.t 17)),m 19 18,g 20 19 false (.faddr 2 (.t 1)),g 21 19 false (.load false 1 (.t 20)),g 22 19
 false (.len (.t 21)),g 23 19 false (.faddr 0 (.t 1)),g 24 19 false (.load false 1 (.t 23)),g 25 19 false (.len (.t 24)),g 26 19 false (.bin .neq (.t 22) (.t 25)),o 27 (.pick
 (.t 19) T (.t 26))]) (.cond (.t 27) (.seq (.reg [o 2 (.mov F)]) (.ret)) (.skip))) (.seq (.reg [o 28 (.xop (.mkmap false)),m 3 28]) (.seq (.seq (.reg [o 29 (.faddr 0 (.t 1)),l 30
 29,o 31 (.len (.t 30)),o 32 (.mov (i 0))]) (.block 0 (.loop (.ghost (.seq (.reg [o 33 (.bin .lss (.t 32) (.t 31))]) (.seq (.cond (.t 33) (.skip) (.exit 0)) (.seq (.block 1 (.seq
 (.reg [m 34 32,o 35 (.iaddr 1 (.t 30) (.t 32)),l 36 35,m 4 34,m 5 36]) (.seq (.seq (.reg [m 37 3,m 38 5,o 39 (.xop (.mlook false false (.val (.bool false)) (.t 37) (.t 38))),
 m 40 39,g 41 40 false (.mov (.t 5)),g 42 40 false (.call 106 [.t 41,.k (.val (.int .i64 1)),.k (.val (.int .i64 1000000))]),g 43 40 false (.un .not (.t 42)),o 44 (.pick (.t
 40) T (.t 43)),m 45 44,g 46 45 false (.faddr 1 (.t 1)),g 47 45 false (.load false 1 (.t 46)),g 48 45 false (.mov (.t 4)),g 49 45 false (.iaddr 1 (.t 47) (.t 48)),g 50 45
 false (.load false 1 (.t 49)),g 51 45 false (.call 106 [.t 50,.k (.val (.int .i64 1)),.k (.val (.int .i64 1000000))]),g 52 45 false (.un .not (.t 51)),o 53 (.pick (.t 45) T
 (.t 52)),m 54 53,g 55 54 false (.faddr 2 (.t 1)),g 56 54 false (.load false 1 (.t 55)),g 57 54 false (.mov (.t 4)),g 58 54 false (.iaddr 1 (.t 56) (.t 57)),g 59 54 false
 (.load false 1 (.t 58)),g 60 54 false (.lens (.t 59)),g 61 54 false (.bin .gtr (.t 60) (i 8000)),o 62 (.pick (.t 54) T (.t 61))]) (.cond (.t 62) (.seq (.reg [o 2 (.mov F)])
 (.ret)) (.skip))) (.reg [m 63 3,m 64 5,n (.xop (.mupd false (.t 63) (.t 64) T))])))) (.reg [o 65 (.bin .add (.t 32) (i 1)),m 32 65])))))))) (.seq (.reg [o 2 (.mov T)])
 (.ret)))))
theorem ok82:K5 Tryz.prog 82 ir82 1 [.t 2]=true:=by kernel_rfl
def ir126:PC:=.seq (.reg [o 1 (.box (.t 0)),o 2 (.alloc [.emp 1,.emp 1,.emp 1])]) (.seq (.mix (.early 0 (o 3 (.faddr 0 (.t 1))) (.early 1 (l 4 3) (.early 3 (o 6 (.faddr 1 (.t
 1))) (.early 4 (l 7 6) (.early 6 (o 9 (.faddr 2 (.t 1))) (.early 7 (l 10 9) (.step 2 (o 5 (.call 189 [.t 4])) [3,4,6,7] (.step 5 (o 8 (.call 189 [.t 7])) [6,7] (.step 8 (o 11
 (.call 190 [.t 10])) [] (.early 9 (o 12 (.build [.emp 1,.emp 1,.emp 1] [(0,1,.t 5),(1,1,.t 8),(2,1,.t 11)])) (.step 10 (n (.store 3 (.t 2) (.t 12))) [] .done))))))))))))
 (.ret))
theorem ok126:K5 Tryz.prog 126 ir126 1 [.c 2 true 3]=true:=by kernel_rfl
def ir72:PC:=.seq (.reg [o 2 (.box (.t 0)),o 3 (.box (.t 1)),o 4 (.alloc [.emp 1,.emp 1,.emp 1]),o 5 (.mov (i 0))]) (.seq (.reg [o 12 (.load true 3 (.t 2)),o 13 (.call 126
 [.t 12]),o 6 (.alloc [.emp 1,.emp 1,.emp 1]),n (.store 3 (.t 6) (.t 13))]) (.seq (.seq (.reg [o 14 (.faddr 1 (.t 3)),l 15 14,o 16 (.call 127 [.t 15]),o 17 (.un .not (.t
 16))]) (.cond (.t 17) (.seq (.reg [o 18 (.load true 3 (.t 6)),n (.store 3 (.t 4) (.t 18)),o 5 (.mov (i 17))]) (.ret)) (.skip))) (.seq (.reg [o 20 (.load true 7 (.t 3)),o 21
 (.call 19 [.t 20]),m 19 21,o 22 (.ext 0 (.t 19)),o 23 (.ext 1 (.t 19)),m 7 22,m 8 23]) (.seq (.seq (.reg [m 24 8,o 25 (.bin .neq (.t 24) (i 0))]) (.cond (.t 25) (.seq (.reg
 [o 26 (.load true 3 (.t 6)),m 27 8,n (.store 3 (.t 4) (.t 26)),m 5 27]) (.ret)) (.skip))) (.seq (.seq (.reg [m 28 7,o 29 (.len (.t 28)),o 30 (.mov (i 0))]) (.block 0 (.loop
 (.ghost (.seq (.reg [o 31 (.bin .lss (.t 30) (.t 29))]) (.seq (.cond (.t 31) (.skip) (.exit 0)) (.seq (.block 1 (.seq (.reg [o 32 (.iaddr 3 (.t 28) (.t 30)),o 33 (.load true 3 (.t
 32)),o 10 (.alloc [.val (.int .i64 0),.val (.int .i64 0),.val (.str ⟨#[]⟩)]),n (.store 3 (.t 10) (.t 33))]) (.seq (.reg [o 34 (.faddr 0 (.t 6)),l 35 34,o 36 (.faddr 0 (.t
 10)),l 37 36,o 38 (.call 128 [.t 35,.t 37]),m 11 38]) (.seq (.seq (.reg [m 39 11,o 40 (.bin .lss (.t 39) (i 0))]) (.cond (.t 40) (.seq (.mix (.early 0 (o 41 (.faddr 0 (.t 6)))
 (.early 1 (l 42 41) (.early 2 (o 43 (.faddr 0 (.t 10))) (.early 3 (l 44 43) (.early 4 (o 45 (.lit 3 1 [.t 44])) (.early 6 (o 47 (.faddr 1 (.t 6))) (.early 7 (l 48 47) (.early 8 (o
 49 (.lit 3 1 [.k (.val (.int .i64 1))])) (.early 10 (o 51 (.faddr 2 (.t 6))) (.early 11 (l 52 51) (.early 12 (o 53 (.faddr 2 (.t 10))) (.early 13 (l 54 53) (.early 14 (o 55 (.lit 9
 1 [.t 54])) (.step 5 (o 46 (.app 3 1 8 (.t 42) (.t 45))) [6,7,8,10,11,12,13,14] (.early 16 (o 57 (.faddr 0 (.t 6))) (.step 9 (o 50 (.app 3 1 8 (.t 48) (.t 49))) [10,11,12,
 13,14,16] (.step 15 (o 56 (.app 9 1 16 (.t 52) (.t 55))) [16] (.step 17 (n (.store 1 (.t 57) (.t 46))) [] (.early 18 (o 58 (.faddr 1 (.t 6))) (.step 19 (n (.store 1 (.t 58) (.t
 50))) [] (.early 20 (o 59 (.faddr 2 (.t 6))) (.step 21 (n (.store 1 (.t 59) (.t 56))) [] .done))))))))))))))))))))))) (.exit 1)) (.skip))) (.seq (.seq (.draw [o 60 (.faddr 2 (.t
 6)),l 61 60,m 62 11,o 63 (.iaddr 1 (.t 61) (.t 62)),l 64 63,o 65 (.faddr 2 (.t 10)),l 66 65] [o 67 (.bin .neq (.t 64) (.t 66))]) (.cond (.t 67) (.seq (.reg [o 68 (.load true
 3 (.t 2)),o 69 (.call 126 [.t 68]),n (.store 3 (.t 4) (.t 69)),o 5 (.mov (i 13))]) (.ret)) (.skip))) (.draw [o 70 (.faddr 1 (.t 6)),l 71 70,m 72 11,o 73 (.faddr 1 (.t 6)),l
 74 73,m 75 11,o 76 (.iaddr 1 (.t 74) (.t 75)),l 77 76,o 78 (.bin .add (.t 77) (i 1)),o 79 (.mn (.t 78) (i 1000000))] [o 80 (.iaddr 1 (.t 71) (.t 72)),n (.store 1 (.t 80) (.t
 79))])))))) (.reg [o 81 (.bin .add (.t 30) (i 1)),m 30 81])))))))) (.seq (.seq (.reg [o 82 (.faddr 0 (.t 6)),l 83 82,o 84 (.len (.t 83)),o 85 (.bin .gtr (.t 84) (i 4096))])
 (.cond (.t 85) (.seq (.reg [o 86 (.load true 3 (.t 2)),o 87 (.call 126 [.t 86]),n (.store 3 (.t 4) (.t 87)),o 5 (.mov (i 7))]) (.ret)) (.skip))) (.seq (.reg [o 88 (.load true 3
 (.t 6)),n (.store 3 (.t 4) (.t 88)),o 5 (.mov (i 0))]) (.ret))))))))
theorem ok72:K5 Tryz.prog 72 ir72 2 [.c 4 true 3,.t 5]=true:=by kernel_rfl
def ir34:PC:=.seq (.reg [o 2 (.box (.t 0)),o 3 (.box (.t 1)),o 4 (.alloc [.emp 1,.emp 1,.emp 1]),o 5 (.mov (i 0))]) (.seq (.seq (.reg [o 6 (.load true 3 (.t 2)),o 7 (.call
 82 [.t 6]),o 8 (.un .not (.t 7))]) (.cond (.t 8) (.seq (.reg [o 9 (.build [.emp 1,.emp 1,.emp 1] []),n (.store 3 (.t 4) (.t 9)),o 5 (.mov (i 1))]) (.ret)) (.skip))) (.seq
 (.reg [o 10 (.load true 3 (.t 2)),o 11 (.load true 7 (.t 3)),o 12 (.call 72 [.t 10,.t 11]),o 13 (.ext 0 (.t 12)),o 14 (.ext 1 (.t 12)),n (.store 3 (.t 4) (.t 13)),m 5 14])
 (.ret)))
theorem ok34:K5 Tryz.prog 34 ir34 2 [.c 4 true 3,.t 5]=true:=by kernel_rfl
def ir189:PC:=.seq (.reg [o 2 (.mov (.k (.emp 1)))]) (.seq (.seq (.reg [m 3 0,o 4 (.isnil false false (.t 3))]) (.cond (.t 4) (.seq (.reg [o 2 (.mov (.k (.emp 1)))]) (.ret))
 (.skip))) (.seq (.reg [o 5 (.lit 3 1 []),m 6 0,o 7 (.app 3 1 8 (.t 5) (.t 6)),m 2 7]) (.ret)))
theorem ok189:K5 Tryz.prog 189 ir189 1 [.t 2]=true:=by kernel_rfl
def ir190:PC:=.seq (.reg [o 2 (.mov (.k (.emp 1)))]) (.seq (.seq (.reg [m 3 0,o 4 (.isnil false false (.t 3))]) (.cond (.t 4) (.seq (.reg [o 2 (.mov (.k (.emp 1)))]) (.ret))
 (.skip))) (.seq (.reg [o 5 (.lit 9 1 []),m 6 0,o 7 (.app 9 1 16 (.t 5) (.t 6)),m 2 7]) (.ret)))
theorem ok190:K5 Tryz.prog 190 ir190 1 [.t 2]=true:=by kernel_rfl
end Go.Proofs
end
section
namespace Go.Proofs
open Go.PW Go.PW.I
def ir6_from7:PC:=.seq (.reg [o 35 (.load true 3 (.t 2)),o 36 (.call 33 [.t 35]),o 8 (.alloc [.emp 1,.emp 1,.emp 1]),n (.store 3 (.t 8) (.t 36))]) (.seq (.reg [o 37 (.load
 true 7 (.t 3)),o 38 (.call 18 [.t 37]),o 9 (.alloc [.val (.int .i64 0),.val (.int .i64 0),.val (.str ⟨#[]⟩),.val (.str ⟨#[]⟩),.emp 1,.val (.str ⟨#[]⟩),.val (.bool false)]),
 n (.store 7 (.t 9) (.t 38))]) (.seq (.reg [o 40 (.load true 3 (.t 8)),o 41 (.load true 7 (.t 9)),o 42 (.call 34 [.t 40,.t 41]),m 39 42,o 43 (.ext 0 (.t 39)),o 44 (.ext 1 (.t
 39)),o 10 (.alloc [.emp 1,.emp 1,.emp 1]),n (.store 3 (.t 10) (.t 43)),m 11 44]) (.seq (.seq (.reg [o 45 (.load true 3 (.t 10)),o 46 (.load true 3 (.t 6)),o 47 (.call 26 [.t
 45,.t 46]),o 48 (.un .not (.t 47)),m 49 48,g 50 49 false (.mov (.t 11)),g 51 49 false (.mov (.t 7)),g 52 49 false (.bin .neq (.t 50) (.t 51)),o 53 (.pick (.t 49) T (.t
 52))]) (.cond (.t 53) (.seq (.reg [o 4 (.mov F)]) (.ret)) (.skip))) (.seq (.seq (.draw [o 54 (.load true 3 (.t 8)),o 55 (.load true 3 (.t 2)),o 56 (.call 33 [.t 55])] [o 57
 (.call 26 [.t 54,.t 56]),o 58 (.un .not (.t 57))]) (.cond (.t 58) (.seq (.reg [o 4 (.mov F)]) (.ret)) (.skip))) (.seq (.seq (.draw [o 59 (.load true 7 (.t 9)),o 60 (.load true 7
 (.t 3)),o 61 (.call 18 [.t 60])] [o 62 (.call 20 [.t 59,.t 61]),o 63 (.un .not (.t 62))]) (.cond (.t 63) (.seq (.reg [o 4 (.mov F)]) (.ret)) (.skip))) (.seq (.reg [o 12 (.mov (i
 1))]) (.seq (.reg [o 64 (.load true 3 (.t 8)),m 65 12,o 66 (.call 29 [.t 64,.t 65]),m 12 66]) (.seq (.reg [o 67 (.load true 7 (.t 9)),m 68 12,o 69 (.call 21 [.t 67,.t 68]),
 m 12 69]) (.seq (.seq (.reg [m 70 12,o 71 (.bin .lss (.t 70) (i 0)),m 72 71,g 73 72 false (.load true 3 (.t 10)),g 74 72 false (.load true 3 (.t 6)),g 75 72 false (.call 26
 [.t 73,.t 74]),g 76 72 false (.un .not (.t 75)),o 77 (.pick (.t 72) T (.t 76)),m 78 77,g 79 78 false (.mov (.t 11)),g 80 78 false (.mov (.t 7)),g 81 78 false (.bin .neq (.t
 79) (.t 80)),o 82 (.pick (.t 78) T (.t 81))]) (.cond (.t 82) (.seq (.reg [o 4 (.mov F)]) (.ret)) (.skip))) (.seq (.reg [o 13 (.mov (i 1))]) (.seq (.reg [o 83 (.load true 3 (.t
 10)),m 84 13,o 85 (.call 29 [.t 83,.t 84]),m 13 85]) (.seq (.reg [o 14 (.mov (i 1))]) (.seq (.reg [o 86 (.load true 3 (.t 10)),m 87 14,o 88 (.call 30 [.t 86,.t 87]),m 14
 88]) (.seq (.seq (.reg [m 89 14,o 90 (.bin .lss (.t 89) (i 0))]) (.cond (.t 90) (.seq (.reg [o 4 (.mov F)]) (.ret)) (.skip))) (.seq (.seq (.reg [m 91 14,m 92 13,o 93 (.bin .neq
 (.t 91) (.t 92))]) (.cond (.t 93) (.seq (.reg [o 4 (.mov F)]) (.ret)) (.skip))) (.seq (.mix (.early 0 (o 95 (.load true 3 (.t 2))) (.early 2 (o 97 (.load true 7 (.t 3))) (.alt 1 (o
 96 (.call 33 [.t 95])) [2] (.alt 3 (o 98 (.call 18 [.t 97])) [] (.alt 4 (o 99 (.call 34 [.t 96,.t 98])) [] (.early 5 (m 94 99) (.early 6 (o 100 (.ext 0 (.t 94))) (.early 7 (o 101
 (.ext 1 (.t 94))) (.step 8 (o 15 (.alloc [.emp 1,.emp 1,.emp 1])) [5,6,7] (.step 9 (n (.store 3 (.t 15) (.t 100))) [7] (.early 10 (m 16 101) .done)))))) (.alt 8 (o 15 (.alloc
 [.emp 1,.emp 1,.emp 1])) [] (.step 4 (o 99 (.call 34 [.t 96,.t 98])) [] (.early 5 (m 94 99) (.early 6 (o 100 (.ext 0 (.t 94))) (.early 7 (o 101 (.ext 1 (.t 94))) (.step 9 (n
 (.store 3 (.t 15) (.t 100))) [7] (.early 10 (m 16 101) .done)))))) .stop)) (.alt 8 (o 15 (.alloc [.emp 1,.emp 1,.emp 1])) [2] (.step 3 (o 98 (.call 18 [.t 97])) [] (.step 4 (o 99
 (.call 34 [.t 96,.t 98])) [] (.early 5 (m 94 99) (.early 6 (o 100 (.ext 0 (.t 94))) (.early 7 (o 101 (.ext 1 (.t 94))) (.step 9 (n (.store 3 (.t 15) (.t 100))) [7] (.early 10 (m
 16 101) .done))))))) .stop)) (.alt 8 (o 15 (.alloc [.emp 1,.emp 1,.emp 1])) [0,2] (.step 1 (o 96 (.call 33 [.t 95])) [2] (.step 3 (o 98 (.call 18 [.t 97])) [] (.step 4 (o 99
 (.call 34 [.t 96,.t 98])) [] (.early 5 (m 94 99) (.early 6 (o 100 (.ext 0 (.t 94))) (.early 7 (o 101 (.ext 1 (.t 94))) (.step 9 (n (.store 3 (.t 15) (.t 100))) [7] (.early 10 (m
 16 101) .done)))))))) .stop))))) (.seq (.seq (.reg [o 102 (.load true 3 (.t 15)),o 103 (.load true 3 (.t 6)),o 104 (.call 26 [.t 102,.t 103]),o 105 (.un .not (.t 104)),m 106
 105,g 107 106 false (.mov (.t 16)),g 108 106 false (.mov (.t 7)),g 109 106 false (.bin .neq (.t 107) (.t 108)),o 110 (.pick (.t 106) T (.t 109))]) (.cond (.t 110) (.seq (.reg
 [o 4 (.mov F)]) (.ret)) (.skip))) (.seq (.reg [o 14 (.mov (i 1))]) (.seq (.reg [o 111 (.load true 3 (.t 10)),m 112 14,o 113 (.call 30 [.t 111,.t 112]),m 14 113]) (.seq (.seq
 (.reg [m 114 14,o 115 (.bin .lss (.t 114) (i 0))]) (.cond (.t 115) (.seq (.reg [o 4 (.mov F)]) (.ret)) (.skip))) (.seq (.seq (.reg [m 116 14,m 117 13,o 118 (.bin .neq (.t 116)
 (.t 117))]) (.cond (.t 118) (.seq (.reg [o 4 (.mov F)]) (.ret)) (.skip))) (.seq (.reg [o 4 (.mov T)]) (.ret)))))))))))))))))))))))
def ir6:PC:=.seq (.reg [o 2 (.box (.t 0)),o 3 (.box (.t 1)),o 4 (.mov F)]) (.seq (.reg [o 5 (.mov (i 1048576))]) (.seq (.reg [o 17 (.load true 3 (.t 2)),m 18 5,o 19 (.call
 31 [.t 17,.t 18]),m 5 19]) (.seq (.seq (.reg [m 20 5,o 21 (.bin .lss (.t 20) (i 0))]) (.cond (.t 21) (.seq (.reg [o 4 (.mov T)]) (.ret)) (.skip))) (.seq (.reg [o 22 (.load true
 7 (.t 3)),m 23 5,o 24 (.call 16 [.t 22,.t 23]),m 5 24]) (.seq (.seq (.reg [m 25 5,o 26 (.bin .lss (.t 25) (i 0))]) (.cond (.t 26) (.seq (.reg [o 4 (.mov T)]) (.ret)) (.skip)))
 (.seq (.mix (.early 0 (o 28 (.load true 3 (.t 2))) (.early 2 (o 30 (.load true 7 (.t 3))) (.alt 1 (o 29 (.call 33 [.t 28])) [2] (.alt 3 (o 31 (.call 18 [.t 30])) [] (.alt 4 (o 32
 (.call 32 [.t 29,.t 31])) [] (.early 5 (m 27 32) (.early 6 (o 33 (.ext 0 (.t 27))) (.early 7 (o 34 (.ext 1 (.t 27))) (.step 8 (o 6 (.alloc [.emp 1,.emp 1,.emp 1])) [5,6,7]
 (.step 9 (n (.store 3 (.t 6) (.t 33))) [7] (.early 10 (m 7 34) .done)))))) (.alt 8 (o 6 (.alloc [.emp 1,.emp 1,.emp 1])) [] (.step 4 (o 32 (.call 32 [.t 29,.t 31])) [] (.early 5
 (m 27 32) (.early 6 (o 33 (.ext 0 (.t 27))) (.early 7 (o 34 (.ext 1 (.t 27))) (.step 9 (n (.store 3 (.t 6) (.t 33))) [7] (.early 10 (m 7 34) .done)))))) .stop)) (.alt 8 (o 6
 (.alloc [.emp 1,.emp 1,.emp 1])) [2] (.step 3 (o 31 (.call 18 [.t 30])) [] (.step 4 (o 32 (.call 32 [.t 29,.t 31])) [] (.early 5 (m 27 32) (.early 6 (o 33 (.ext 0 (.t 27)))
 (.early 7 (o 34 (.ext 1 (.t 27))) (.step 9 (n (.store 3 (.t 6) (.t 33))) [7] (.early 10 (m 7 34) .done))))))) .stop)) (.alt 8 (o 6 (.alloc [.emp 1,.emp 1,.emp 1])) [0,2] (.step
 1 (o 29 (.call 33 [.t 28])) [2] (.step 3 (o 31 (.call 18 [.t 30])) [] (.step 4 (o 32 (.call 32 [.t 29,.t 31])) [] (.early 5 (m 27 32) (.early 6 (o 33 (.ext 0 (.t 27))) (.early 7
 (o 34 (.ext 1 (.t 27))) (.step 9 (n (.store 3 (.t 6) (.t 33))) [7] (.early 10 (m 7 34) .done)))))))) .stop))))) (ir6_from7)))))))
theorem ok6:K5 Tryz.prog 6 ir6 2 [.t 4]=true:=by kernel_rfl
end Go.Proofs
end
