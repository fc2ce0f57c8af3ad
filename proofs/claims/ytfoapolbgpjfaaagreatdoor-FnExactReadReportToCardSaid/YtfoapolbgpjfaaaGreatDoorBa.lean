/- Ba: merged out of IRs, IRt, IRw, IRx, IRy, IRp, IRq, IRu, IRm, IRn, IRee, IRv, IRe, IRg, IRj, IRpp, IRuu, IRjj, IRww, IRxx, IRyy, IRzz, IRbf. -/
import Derived.Test.YtfoapolbgpjfaaaGreatDoorPWv
import Derived.Test.YtfoapolbgpjfaaaGreatDoorChecked
import Derived.KernelRfl
import Derived.Test.YtfoapolbgpjfaaaGreatDoorPWaj
set_option maxRecDepth 100000
section
namespace Go.Proofs
open Go.PW Go.PW.I
def ir129:PC:=.seq (.reg [o 6 (.mov F)]) (.seq (.reg [m 7 0,m 8 1,o 9 (.bin .geq (.t 7) (.t 8)),m 10 9,g 11 10 true (.mov (.t 0)),g 12 10 true (.mov (.t 2)),g 13 10 true
 (.bin .leq (.t 11) (.t 12)),o 14 (.pick (.t 10) (.t 13) F),m 6 14]) (.ret))
theorem ok129:N5 Tryz.prog 129 ir129 3 [.t 6]=true:=by kernel_rfl
def ir198:PC:=.seq (.reg [o 4 (.mov (i 0))]) (.seq (.seq (.reg [o 5 (.mov (i 0))]) (.block 0 (.loop (.ghost (.seq (.seq (.reg [m 6 5,m 7 0,o 8 (.lens (.t 7)),o 9 (.bin .lss
 (.t 6) (.t 8))]) (.cond (.t 9) (.skip) (.exit 0))) (.seq (.block 1 (.seq (.reg [m 12 0,m 13 5,o 14 (.idx (.t 12) (.t 13)),m 15 1,o 16 (.bin .eql (.t 14) (.t 15))]) (.cond (.t
 16) (.seq (.reg [m 17 5,m 4 17]) (.ret)) (.skip)))) (.reg [m 10 5,o 11 (.bin .add (.t 10) (i 1)),m 5 11]))))))) (.seq (.reg [m 18 0,o 19 (.lens (.t 18)),m 4 19]) (.ret)))
theorem ok198:N5 Tryz.prog 198 ir198 2 [.t 4]=true:=by kernel_rfl
def ir133:PC:=.seq (.reg [o 2 (.mov (z #[]))]) (.seq (.reg [o 6 (.lit 5 1 []),m 3 6]) (.seq (.seq (.reg [o 4 (.mov (i 0))]) (.block 0 (.loop (.ghost (.seq (.seq (.reg [m 7 4,m
 8 0,o 9 (.lens (.t 8)),o 10 (.bin .lss (.t 7) (.t 9))]) (.cond (.t 10) (.skip) (.exit 0))) (.seq (.block 1 (.seq (.reg [m 13 0,m 14 4,o 15 (.idx (.t 13) (.t 14)),m 5 15])
 (.seq (.seq (.reg [m 16 5,o 17 (.bin .geq (.t 16) (.k (.val (.int .u8 65)))),m 18 17,g 19 18 true (.mov (.t 5)),g 20 18 true (.bin .leq (.t 19) (.k (.val (.int .u8 90)))),o 21
 (.pick (.t 18) (.t 20) F)]) (.cond (.t 21) (.reg [m 22 5,o 23 (.bin .add (.t 22) (.k (.val (.int .u8 32)))),m 5 23]) (.skip))) (.reg [m 24 3,m 25 5,o 26 (.lit 5 1 [.t 25]),o
 27 (.app 5 1 1 (.t 24) (.t 26)),m 3 27])))) (.reg [m 11 4,o 12 (.bin .add (.t 11) (i 1)),m 4 12]))))))) (.seq (.reg [m 28 3,o 29 (.tostr (.t 28)),m 2 29]) (.ret))))
theorem ok133:N5 Tryz.prog 133 ir133 1 [.t 2]=true:=by kernel_rfl
def ir269:PC:=.seq (.reg [o 4 (.mov F)]) (.seq (.seq (.reg [o 5 (.mov (i 0))]) (.block 0 (.loop (.ghost (.seq (.seq (.reg [m 6 5,m 7 0,o 8 (.lens (.t 7)),o 9 (.bin .lss (.t
 6) (.t 8))]) (.cond (.t 9) (.skip) (.exit 0))) (.seq (.block 1 (.seq (.reg [m 12 0,m 13 5,o 14 (.idx (.t 12) (.t 13)),o 15 (.bin .lss (.t 14) (.k (.val (.int .u8 33)))),m 16
 15,g 17 16 false (.mov (.t 0)),g 18 16 false (.mov (.t 5)),g 19 16 false (.idx (.t 17) (.t 18)),g 20 16 false (.bin .gtr (.t 19) (.k (.val (.int .u8 126)))),o 21 (.pick (.t
 16) T (.t 20)),m 22 21,g 23 22 false (.mov (.t 1)),g 24 22 false (.mov (.t 0)),g 25 22 false (.mov (.t 5)),g 26 22 false (.idx (.t 24) (.t 25)),g 27 22 false (.call 198 [.t
 23,.t 26]),g 28 22 false (.mov (.t 1)),g 29 22 false (.lens (.t 28)),g 30 22 false (.bin .lss (.t 27) (.t 29)),o 31 (.pick (.t 22) T (.t 30))]) (.cond (.t 31) (.seq (.reg [o 4
 (.mov F)]) (.ret)) (.skip)))) (.reg [m 10 5,o 11 (.bin .add (.t 10) (i 1)),m 5 11]))))))) (.seq (.reg [o 4 (.mov T)]) (.ret)))
theorem ok269:N5 Tryz.prog 269 ir269 2 [.t 4]=true:=by kernel_rfl
def ir200:PC:=.seq (.reg [o 2 (.mov F)]) (.seq (.reg [m 3 0,o 4 (.bin .eql (.t 3) (z #[104,116,116,112])),m 5 4,g 6 5 false (.mov (.t 0)),g 7 5 false (.bin .eql (.t 6) (z
 #[104,116,116,112,115])),o 8 (.pick (.t 5) T (.t 7)),m 2 8]) (.ret))
theorem ok200:N5 Tryz.prog 200 ir200 1 [.t 2]=true:=by kernel_rfl
def ir268:PC:=.seq (.reg [o 2 (.mov F)]) (.seq (.seq (.reg [m 5 0,o 6 (.lens (.t 5)),o 7 (.call 129 [.t 6,.k (.val (.int .i64 1)),.k (.val (.int .i64 12))]),o 8 (.un .not
 (.t 7))]) (.cond (.t 8) (.seq (.reg [o 2 (.mov F)]) (.ret)) (.skip))) (.seq (.seq (.reg [o 3 (.mov (i 0))]) (.block 0 (.loop (.ghost (.seq (.seq (.reg [m 9 3,m 10 0,o 11 (.lens
 (.t 10)),o 12 (.bin .lss (.t 9) (.t 11))]) (.cond (.t 12) (.skip) (.exit 0))) (.seq (.block 1 (.seq (.reg [m 15 0,m 16 3,o 17 (.idx (.t 15) (.t 16)),o 18 (.bin .geq (.t 17) (.k
 (.val (.int .u8 97)))),m 19 18,g 20 19 true (.mov (.t 0)),g 21 19 true (.mov (.t 3)),g 22 19 true (.idx (.t 20) (.t 21)),g 23 19 true (.bin .leq (.t 22) (.k (.val (.int .u8
 122)))),o 24 (.pick (.t 19) (.t 23) F),m 4 24]) (.seq (.reg [m 25 4,o 26 (.un .not (.t 25)),m 27 26,g 28 27 true (.mov (.t 3)),g 29 27 true (.bin .eql (.t 28) (i 0)),g 30 27
 true (.mov (.t 29)),g 31 30 false (.mov (.t 0)),g 32 30 false (.mov (.t 3)),g 33 30 false (.idx (.t 31) (.t 32)),g 34 30 false (.call 215 [.t 33]),g 35 30 false (.un .not (.t
 34)),g 36 30 false (.mov (.t 35)),g 37 36 true (.mov (.t 0)),g 38 36 true (.mov (.t 3)),g 39 36 true (.idx (.t 37) (.t 38)),g 40 36 true (.bin .neq (.t 39) (.k (.val (.int .u8
 45)))),g 41 30 false (.pick (.t 36) (.t 40) F),g 42 30 false (.mov (.t 41)),g 43 42 true (.mov (.t 0)),g 44 42 true (.mov (.t 3)),g 45 42 true (.idx (.t 43) (.t 44)),g 46 42
 true (.bin .neq (.t 45) (.k (.val (.int .u8 43)))),g 47 30 false (.pick (.t 42) (.t 46) F),g 48 30 false (.mov (.t 47)),g 49 48 true (.mov (.t 0)),g 50 48 true (.mov (.t 3)),g
 51 48 true (.idx (.t 49) (.t 50)),g 52 48 true (.bin .neq (.t 51) (.k (.val (.int .u8 46)))),g 53 30 false (.pick (.t 48) (.t 52) F),g 54 27 true (.pick (.t 30) T (.t 53)),o 55
 (.pick (.t 27) (.t 54) F)]) (.cond (.t 55) (.seq (.reg [o 2 (.mov F)]) (.ret)) (.skip))))) (.reg [m 13 3,o 14 (.bin .add (.t 13) (i 1)),m 3 14]))))))) (.seq (.reg [o 2 (.mov T)])
 (.ret))))
theorem ok268:N5 Tryz.prog 268 ir268 1 [.t 2]=true:=by kernel_rfl
def ir270:PC:=.seq (.reg [o 2 (.mov F)]) (.seq (.reg [o 3 (.mov T)]) (.seq (.seq (.reg [o 4 (.mov (i 0))]) (.block 0 (.loop (.ghost (.seq (.seq (.reg [m 6 4,m 7 0,o 8 (.lens
 (.t 7)),o 9 (.bin .lss (.t 6) (.t 8))]) (.cond (.t 9) (.skip) (.exit 0))) (.seq (.block 1 (.seq (.reg [m 12 0,m 13 4,o 14 (.idx (.t 12) (.t 13)),o 15 (.bin .geq (.t 14) (.k
 (.val (.int .u8 97)))),m 16 15,g 17 16 true (.mov (.t 0)),g 18 16 true (.mov (.t 4)),g 19 16 true (.idx (.t 17) (.t 18)),g 20 16 true (.bin .leq (.t 19) (.k (.val (.int .u8
 122)))),o 21 (.pick (.t 16) (.t 20) F),m 22 21,g 23 22 false (.mov (.t 0)),g 24 22 false (.mov (.t 4)),g 25 22 false (.idx (.t 23) (.t 24)),g 26 22 false (.call 215 [.t 25]),
 o 27 (.pick (.t 22) T (.t 26)),m 5 27]) (.seq (.seq (.reg [m 28 5,o 29 (.un .not (.t 28)),m 30 29,g 31 30 true (.mov (.t 3)),g 32 30 true (.mov (.t 31)),g 33 32 false (.mov
 (.t 0)),g 34 32 false (.mov (.t 4)),g 35 32 false (.idx (.t 33) (.t 34)),g 36 32 false (.bin .neq (.t 35) (.k (.val (.int .u8 45)))),g 37 32 false (.mov (.t 36)),g 38 37 true
 (.mov (.t 0)),g 39 37 true (.mov (.t 4)),g 40 37 true (.idx (.t 38) (.t 39)),g 41 37 true (.bin .neq (.t 40) (.k (.val (.int .u8 46)))),g 42 32 false (.pick (.t 37) (.t 41) F),
 g 43 30 true (.pick (.t 32) T (.t 42)),o 44 (.pick (.t 30) (.t 43) F)]) (.cond (.t 44) (.seq (.reg [o 2 (.mov F)]) (.ret)) (.skip))) (.reg [m 45 5,o 46 (.un .not (.t 45)),m 3
 46])))) (.reg [m 10 4,o 11 (.bin .add (.t 10) (i 1)),m 4 11]))))))) (.seq (.reg [m 47 3,o 48 (.un .not (.t 47)),m 2 48]) (.ret))))
theorem ok270:N5 Tryz.prog 270 ir270 1 [.t 2]=true:=by kernel_rfl
def ir241:PC:=.seq (.reg [o 2 (.mov (i 0))]) (.seq (.seq (.reg [m 3 0,o 4 (.bin .eql (.t 3) (z #[104,116,116,112]))]) (.cond (.t 4) (.seq (.reg [o 2 (.mov (i 80))]) (.ret))
 (.skip))) (.seq (.reg [o 2 (.mov (i 443))]) (.ret)))
theorem ok241:N5 Tryz.prog 241 ir241 1 [.t 2]=true:=by kernel_rfl
def ir215:PC:=.seq (.reg [o 2 (.mov F)]) (.seq (.reg [m 3 0,o 4 (.bin .geq (.t 3) (.k (.val (.int .u8 48)))),m 5 4,g 6 5 true (.mov (.t 0)),g 7 5 true (.bin .leq (.t 6) (.k
 (.val (.int .u8 57)))),o 8 (.pick (.t 5) (.t 7) F),m 2 8]) (.ret))
theorem ok215:N5 Tryz.prog 215 ir215 1 [.t 2]=true:=by kernel_rfl
def ir223:PC:=.seq (.reg [o 2 (.mov (z #[]))]) (.seq (.seq (.reg [m 3 0,o 4 (.bin .eql (.t 3) (i (-9223372036854775808)))]) (.cond (.t 4) (.seq (.reg [o 2 (.mov (z #[45,57,
 50,50,51,51,55,50,48,51,54,56,53,52,55,55,53,56,48,56]))]) (.ret)) (.skip))) (.seq (.seq (.reg [m 5 0,o 6 (.bin .lss (.t 5) (i 0))]) (.cond (.t 6) (.seq (.reg [m
 7 0,o 8 (.un .neg (.t 7)),o 9 (.call 223 [.t 8]),o 10 (.bin .add (z #[45]) (.t 9)),m 2 10]) (.ret)) (.skip))) (.seq (.seq (.reg [m 11 0,o 12 (.bin .lss (.t 11) (i 10))])
 (.cond (.t 12) (.seq (.reg [m 13 0,o 14 (.bin .add (i 48) (.t 13)),o 15 (.conv .u8 (.t 14)),o 16 (.lit 5 1 [.t 15]),o 17 (.tostr (.t 16)),m 2 17]) (.ret)) (.skip))) (.seq
 (.draw [m 18 0,o 19 (.bin .quo (.t 18) (i 10)),o 20 (.call 223 [.t 19]),m 21 0,o 22 (.bin .rem (.t 21) (i 10)),o 23 (.bin .add (i 48) (.t 22)),o 24 (.conv .u8 (.t 23)),o 25
 (.lit 5 1 [.t 24]),o 26 (.tostr (.t 25)),o 27 (.bin .add (.t 20) (.t 26))] [m 2 27]) (.ret)))))
theorem ok223:N5 Tryz.prog 223 ir223 1 [.t 2]=true:=by kernel_rfl
def ir240_from5:PC:=.seq (.seq (.reg [o 6 (.mov (i 0))]) (.block 0 (.loop (.ghost (.seq (.seq (.reg [m 39 6,m 40 0,o 41 (.lens (.t 40)),o 42 (.bin .lss (.t 39) (.t 41))])
 (.cond (.t 42) (.skip) (.exit 0))) (.seq (.block 1 (.seq (.seq (.reg [m 45 0,m 46 6,o 47 (.idx (.t 45) (.t 46)),o 48 (.bin .lss (.t 47) (.k (.val (.int .u8 48)))),m 49 48,g 50
 49 false (.mov (.t 0)),g 51 49 false (.mov (.t 6)),g 52 49 false (.idx (.t 50) (.t 51)),g 53 49 false (.bin .gtr (.t 52) (.k (.val (.int .u8 57)))),o 54 (.pick (.t 49) T (.t
 53))]) (.cond (.t 54) (.seq (.reg [o 2 (.mov (i 0)),o 3 (.mov F)]) (.ret)) (.skip))) (.reg [m 55 5,o 56 (.bin .mul (.t 55) (i 10)),m 57 0,m 58 6,o 59 (.idx (.t 57) (.t 58)),o
 60 (.conv .i64 (.t 59)),o 61 (.bin .add (.t 56) (.t 60)),o 62 (.bin .sub (.t 61) (i 48)),m 5 62]))) (.reg [m 43 6,o 44 (.bin .add (.t 43) (i 1)),m 6 44]))))))) (.seq (.reg [m
 63 4,m 64 5,o 65 (.bin .mul (.t 63) (.t 64)),m 2 65,o 3 (.mov T)]) (.ret))
def ir240_from3:PC:=.seq (.seq (.reg [m 17 0,o 18 (.lens (.t 17)),o 19 (.bin .eql (.t 18) (i 0)),m 20 19,g 21 20 false (.mov (.t 0)),g 22 20 false (.lens (.t 21)),g 23 20
 false (.bin .gtr (.t 22) (i 18)),o 24 (.pick (.t 20) T (.t 23)),m 25 24,g 26 25 false (.mov (.t 0)),g 27 25 false (.idx (.t 26) (i 0)),g 28 25 false (.bin .eql (.t 27) (.k
 (.val (.int .u8 48)))),g 29 25 false (.mov (.t 28)),g 30 29 true (.mov (.t 0)),g 31 29 true (.lens (.t 30)),g 32 29 true (.bin .gtr (.t 31) (i 1)),g 33 29 true (.mov (.t 32)),
 g 34 33 false (.mov (.t 4)),g 35 33 false (.bin .lss (.t 34) (i 0)),g 36 29 true (.pick (.t 33) T (.t 35)),g 37 25 false (.pick (.t 29) (.t 36) F),o 38 (.pick (.t 25) T (.t
 37))]) (.cond (.t 38) (.seq (.reg [o 2 (.mov (i 0)),o 3 (.mov F)]) (.ret)) (.skip))) (.seq (.reg [o 5 (.mov (i 0))]) (ir240_from5))
def ir240:PC:=.seq (.reg [o 2 (.mov (i 0)),o 3 (.mov F)]) (.seq (.reg [o 4 (.mov (i 1))]) (.seq (.seq (.reg [m 7 0,o 8 (.lens (.t 7)),o 9 (.bin .gtr (.t 8) (i 0)),m 10 9,g
 11 10 true (.mov (.t 0)),g 12 10 true (.idx (.t 11) (i 0)),g 13 10 true (.bin .eql (.t 12) (.k (.val (.int .u8 45)))),o 14 (.pick (.t 10) (.t 13) F)]) (.cond (.t 14) (.seq (.reg
 [o 4 (.mov (i (-1)))]) (.reg [m 15 0,o 16 (.slc 0 (.t 15) (some (i 1)) none),m 0 16])) (.skip))) (ir240_from3)))
theorem ok240:N5 Tryz.prog 240 ir240 1 [.t 2,.t 3]=true:=by kernel_rfl
def ir242:PC:=.seq (.reg [o 1 (.box (.t 0)),o 2 (.mov (z #[]))]) (.seq (.reg [o 4 (.faddr 0 (.t 1)),l 5 4,o 6 (.bin .add (.t 5) (z #[58,47,47])),o 7 (.faddr 2 (.t 1)),l 8
 7,o 9 (.bin .add (.t 6) (.t 8)),m 3 9]) (.seq (.seq (.reg [o 10 (.faddr 3 (.t 1)),l 11 10,o 12 (.bin .gtr (.t 11) (i 0))]) (.cond (.t 12) (.reg [m 13 3,o 14 (.faddr 3 (.t 1)),
 l 15 14,o 16 (.call 223 [.t 15]),o 17 (.bin .add (z #[58]) (.t 16)),o 18 (.bin .add (.t 13) (.t 17)),m 3 18]) (.skip))) (.seq (.reg [m 19 3,m 2 19]) (.ret))))
theorem ok242:N5 Tryz.prog 242 ir242 1 [.t 2]=true:=by kernel_rfl
def ir201_from4:PC:=.seq (.draw [m 25 3,o 26 (.faddr 2 (.t 1)),l 27 26,o 28 (.faddr 3 (.t 1)),l 29 28,o 30 (.build [.val (.str ⟨#[]⟩),.val (.str ⟨#[]⟩),.val (.str ⟨#[]⟩),
 .val (.int .i64 0),.val (.str ⟨#[]⟩),.val (.str ⟨#[]⟩),.val (.str ⟨#[]⟩),.val (.bool false),.val (.bool false)] [(2,1,.t 27),(3,1,.t 29)]),o 31 (.call 242 [.t 30]),o 32
 (.slc 0 (.t 31) (some (i 3)) none),o 33 (.faddr 4 (.t 1)),l 34 33,o 35 (.bin .add (.t 32) (.t 34)),o 36 (.bin .add (.t 25) (.t 35))] [m 3 36]) (.seq (.seq (.reg [o 37 (.faddr 7
 (.t 1)),l 38 37]) (.cond (.t 38) (.reg [m 39 3,o 40 (.faddr 5 (.t 1)),l 41 40,o 42 (.bin .add (z #[63]) (.t 41)),o 43 (.bin .add (.t 39) (.t 42)),m 3 43]) (.skip))) (.seq
 (.seq (.reg [o 44 (.faddr 8 (.t 1)),l 45 44]) (.cond (.t 45) (.reg [m 46 3,o 47 (.faddr 6 (.t 1)),l 48 47,o 49 (.bin .add (z #[35]) (.t 48)),o 50 (.bin .add (.t 46) (.t 49)),
 m 3 50]) (.skip))) (.seq (.reg [m 51 3,m 2 51]) (.ret))))
def ir201:PC:=.seq (.reg [o 1 (.box (.t 0)),o 2 (.mov (z #[]))]) (.seq (.seq (.reg [o 4 (.faddr 0 (.t 1)),l 5 4,o 6 (.call 200 [.t 5]),o 7 (.un .not (.t 6))]) (.cond (.t 7)
 (.seq (.reg [o 8 (.faddr 0 (.t 1)),l 9 8,o 10 (.bin .add (.t 9) (z #[58])),o 11 (.faddr 4 (.t 1)),l 12 11,o 13 (.bin .add (.t 10) (.t 12)),m 2 13]) (.ret)) (.skip))) (.seq
 (.reg [o 14 (.faddr 0 (.t 1)),l 15 14,o 16 (.bin .add (.t 15) (z #[58,47,47])),m 3 16]) (.seq (.seq (.reg [o 17 (.faddr 1 (.t 1)),l 18 17,o 19 (.bin .neq (.t 18) (z #[]))])
 (.cond (.t 19) (.reg [m 20 3,o 21 (.faddr 1 (.t 1)),l 22 21,o 23 (.bin .add (.t 22) (z #[64])),o 24 (.bin .add (.t 20) (.t 23)),m 3 24]) (.skip))) (ir201_from4))))
theorem ok201:N5 Tryz.prog 201 ir201 1 [.t 2]=true:=by kernel_rfl
def ir239_ops1_43:List POper:=[g 46 45 false (.load true 9 (.t 1)),g 47 45 false (.call 201 [.t 46]),g 48 45 false (.lens (.t 47)),g 49 45 false (.bin .gtr (.t 48) (i 100)),
 o 50 (.pick (.t 45) T (.t 49))]
def ir239_ops1_37:List POper:=g 40 39 false (.faddr 6 (.t 1)) :: g 41 39 false (.load false 1 (.t 40)) :: g 42 39 false (.call 269 [.t 41,.k (.val (.str ⟨#[]⟩))]) :: g 43 39
 false (.un .not (.t 42)) :: o 44 (.pick (.t 39) T (.t 43)) :: m 45 44 :: ir239_ops1_43
def ir239_ops1_31:List POper:=g 34 33 false (.faddr 5 (.t 1)) :: g 35 33 false (.load false 1 (.t 34)) :: g 36 33 false (.call 269 [.t 35,.k (.val (.str ⟨#[35]⟩))]) :: g 37 33
 false (.un .not (.t 36)) :: o 38 (.pick (.t 33) T (.t 37)) :: m 39 38 :: ir239_ops1_37
def ir239_ops1_25:List POper:=g 28 27 false (.faddr 4 (.t 1)) :: g 29 27 false (.load false 1 (.t 28)) :: g 30 27 false (.call 269 [.t 29,.k (.val (.str ⟨#[63,35]⟩))]) :: g 31
 27 false (.un .not (.t 30)) :: o 32 (.pick (.t 27) T (.t 31)) :: m 33 32 :: ir239_ops1_31
def ir239_ops1_15:List POper:=g 18 17 false (.faddr 8 (.t 1)) :: g 19 17 false (.load false 1 (.t 18)) :: g 20 17 false (.un .not (.t 19)) :: g 21 17 false (.mov (.t 20)) :: g
 22 21 true (.faddr 6 (.t 1)) :: g 23 21 true (.load false 1 (.t 22)) :: g 24 21 true (.bin .neq (.t 23) (z #[])) :: g 25 17 false (.pick (.t 21) (.t 24) F) :: o 26 (.pick (.t 17) T
 (.t 25)) :: m 27 26 :: ir239_ops1_25
def ir239_from3:PC:=.seq (.draw [o 78 (.faddr 1 (.t 1)),l 79 78,o 80 (.call 269 [.t 79,.k (.val (.str ⟨#[47,63,35,64]⟩))]),m 81 80,g 82 81 true (.faddr 2 (.t 1)),g 83
 81 true (.load false 1 (.t 82)),g 84 81 true (.call 270 [.t 83]),o 85 (.pick (.t 81) (.t 84) F),m 86 85,g 87 86 true (.faddr 3 (.t 1)),g 88 86 true (.load false 1 (.t 87)),g
 89 86 true (.call 129 [.t 88,.k (.val (.int .i64 0)),.k (.val (.int .i64 65535))]),o 90 (.pick (.t 86) (.t 89) F),m 91 90,g 92 91 true (.faddr 3 (.t 1)),g 93 91 true (.load
 false 1 (.t 92)),g 94 91 true (.faddr 0 (.t 1)),g 95 91 true (.load false 1 (.t 94)),g 96 91 true (.call 241 [.t 95]),g 97 91 true (.bin .neq (.t 93) (.t 96)),o 98 (.pick (.t
 91) (.t 97) F),m 99 98,g 100 99 true (.faddr 4 (.t 1)),g 101 99 true (.load false 1 (.t 100)),g 102 99 true (.lens (.t 101)),g 103 99 true (.bin .gtr (.t 102) (i 0)),o 104
 (.pick (.t 99) (.t 103) F),m 105 104,g 106 105 true (.faddr 4 (.t 1)),g 107 105 true (.load false 1 (.t 106)),g 108 105 true (.idx (.t 107) (i 0)),g 109 105 true (.bin .eql
 (.t 108) (.k (.val (.int .u8 47)))),o 110 (.pick (.t 105) (.t 109) F)] [m 2 110]) (.ret)
def ir239_from2:PC:=.seq (.seq (.reg [o 51 (.faddr 0 (.t 1)),l 52 51,o 53 (.call 200 [.t 52]),o 54 (.un .not (.t 53))]) (.cond (.t 54) (.seq (.reg [o 55 (.faddr 1 (.t 1)),l
 56 55,o 57 (.bin .eql (.t 56) (z #[])),m 58 57,g 59 58 true (.faddr 2 (.t 1)),g 60 58 true (.load false 1 (.t 59)),g 61 58 true (.bin .eql (.t 60) (z #[])),o 62 (.pick (.t
 58) (.t 61) F),m 63 62,g 64 63 true (.faddr 3 (.t 1)),g 65 63 true (.load false 1 (.t 64)),g 66 63 true (.bin .eql (.t 65) (i 0)),o 67 (.pick (.t 63) (.t 66) F),m 68 67,g 69
 68 true (.faddr 7 (.t 1)),g 70 68 true (.load false 1 (.t 69)),g 71 68 true (.un .not (.t 70)),o 72 (.pick (.t 68) (.t 71) F),m 73 72,g 74 73 true (.faddr 8 (.t 1)),g 75 73
 true (.load false 1 (.t 74)),g 76 73 true (.un .not (.t 75)),o 77 (.pick (.t 73) (.t 76) F),m 2 77]) (.ret)) (.skip))) (ir239_from3)
def ir239:PC:=.seq (.reg [o 1 (.box (.t 0)),o 2 (.mov F)]) (.seq (.seq (.reg (o 3 (.faddr 0 (.t 1)) :: l 4 3 :: o 5 (.call 268 [.t 4]) :: o 6 (.un .not (.t 5)) :: m 7 6 :: g 8
 7 false (.faddr 7 (.t 1)) :: g 9 7 false (.load false 1 (.t 8)) :: g 10 7 false (.un .not (.t 9)) :: g 11 7 false (.mov (.t 10)) :: g 12 11 true (.faddr 5 (.t 1)) :: g 13 11 true
 (.load false 1 (.t 12)) :: g 14 11 true (.bin .neq (.t 13) (z #[])) :: g 15 7 false (.pick (.t 11) (.t 14) F) :: o 16 (.pick (.t 7) T (.t 15)) :: m 17 16 :: ir239_ops1_15)) (.cond
 (.t 50) (.seq (.reg [o 2 (.mov F)]) (.ret)) (.skip))) (ir239_from2))
theorem ok239:N5 Tryz.prog 239 ir239 1 [.t 2]=true:=by kernel_rfl
end Go.Proofs
end
section
namespace Go.Proofs
open Go.PW Go.PW.I
def ir199_from18:PC:=.seq (.draw [o 149 (.load true 9 (.t 5)),o 150 (.load true 9 (.t 5)),o 151 (.call 239 [.t 150])] [n (.store 9 (.t 2) (.t 149)),m 3 151]) (.ret)
def ir199_from17:PC:=.seq (.seq (.reg [m 122 4,m 123 6,o 124 (.lens (.t 123)),o 125 (.bin .lss (.t 122) (.t 124))]) (.cond (.t 125) (.seq (.reg [m 127 6,m 128 4,o 129 (.bin
 .add (.t 128) (i 1)),o 130 (.slc 0 (.t 127) (some (.t 129)) none),o 131 (.call 240 [.t 130]),m 126 131,o 132 (.ext 0 (.t 126)),o 133 (.ext 1 (.t 126)),m 11 132,m 12 133])
 (.seq (.seq (.reg [m 134 12,o 135 (.un .not (.t 134)),m 136 135,g 137 136 false (.mov (.t 11)),g 138 136 false (.call 129 [.t 137,.k (.val (.int .i64 1)),.k (.val (.int .i64
 65535))]),g 139 136 false (.un .not (.t 138)),o 140 (.pick (.t 136) T (.t 139))]) (.cond (.t 140) (.seq (.reg [o 141 (.build [.val (.str ⟨#[]⟩),.val (.str ⟨#[]⟩),.val (.str
 ⟨#[]⟩),.val (.int .i64 0),.val (.str ⟨#[]⟩),.val (.str ⟨#[]⟩),.val (.str ⟨#[]⟩),.val (.bool false),.val (.bool false)] []),n (.store 9 (.t 2) (.t 141)),o 3 (.mov F)])
 (.ret)) (.skip))) (.seq (.reg [m 142 11,o 143 (.faddr 0 (.t 5)),l 144 143,o 145 (.call 241 [.t 144]),o 146 (.bin .neq (.t 142) (.t 145))]) (.cond (.t 146) (.reg [m 147 11,o
 148 (.faddr 3 (.t 5)),n (.store 1 (.t 148) (.t 147))]) (.skip))))) (.skip))) (ir199_from18)
def ir199_from15:PC:=.seq (.reg [m 115 6,o 116 (.call 198 [.t 115,.k (.val (.int .u8 58))]),m 4 116]) (.seq (.reg [m 117 6,m 118 4,o 119 (.slc 0 (.t 117) none (some (.t
 118))),o 120 (.call 133 [.t 119]),o 121 (.faddr 2 (.t 5)),n (.store 1 (.t 121) (.t 120))]) (ir199_from17))
def ir199_from14:PC:=.seq (.seq (.reg [m 101 6,o 102 (.call 198 [.t 101,.k (.val (.int .u8 64))]),m 10 102]) (.seq (.reg [m 103 10,m 104 6,o 105 (.lens (.t 104)),o 106
 (.bin .lss (.t 103) (.t 105))]) (.cond (.t 106) (.seq (.reg [m 107 6,m 108 10,o 109 (.slc 0 (.t 107) none (some (.t 108))),o 110 (.faddr 1 (.t 5)),n (.store 1 (.t 110) (.t
 109))]) (.reg [m 111 6,m 112 10,o 113 (.bin .add (.t 112) (i 1)),o 114 (.slc 0 (.t 111) (some (.t 113)) none),m 6 114])) (.skip)))) (ir199_from15)
def ir199_from12:PC:=.seq (.seq (.reg [o 94 (.faddr 4 (.t 5)),l 95 94,o 96 (.bin .eql (.t 95) (z #[]))]) (.cond (.t 96) (.reg [o 97 (.faddr 4 (.t 5)),n (.store 1 (.t 97) (z
 #[47]))]) (.skip))) (.seq (.reg [m 98 6,m 99 4,o 100 (.slc 0 (.t 98) none (some (.t 99))),m 6 100]) (ir199_from14))
def ir199_from10:PC:=.seq (.reg [m 88 6,o 89 (.call 198 [.t 88,.k (.val (.int .u8 47))]),m 4 89]) (.seq (.reg [m 90 6,m 91 4,o 92 (.slc 0 (.t 90) (some (.t 91)) none),o 93
 (.faddr 4 (.t 5)),n (.store 1 (.t 93) (.t 92))]) (ir199_from12))
def ir199_from9:PC:=.seq (.seq (.reg [m 73 6,o 74 (.call 198 [.t 73,.k (.val (.int .u8 63))]),m 9 74]) (.seq (.reg [m 75 9,m 76 6,o 77 (.lens (.t 76)),o 78 (.bin .lss (.t
 75) (.t 77))]) (.cond (.t 78) (.seq (.reg [o 79 (.faddr 7 (.t 5)),n (.store 1 (.t 79) T)]) (.seq (.reg [m 80 6,m 81 9,o 82 (.bin .add (.t 81) (i 1)),o 83 (.slc 0 (.t 80) (some
 (.t 82)) none),o 84 (.faddr 5 (.t 5)),n (.store 1 (.t 84) (.t 83))]) (.reg [m 85 6,m 86 9,o 87 (.slc 0 (.t 85) none (some (.t 86))),m 6 87]))) (.skip)))) (ir199_from10)
def ir199_from8:PC:=.seq (.seq (.reg [m 58 6,o 59 (.call 198 [.t 58,.k (.val (.int .u8 35))]),m 8 59]) (.seq (.reg [m 60 8,m 61 6,o 62 (.lens (.t 61)),o 63 (.bin .lss (.t
 60) (.t 62))]) (.cond (.t 63) (.seq (.reg [o 64 (.faddr 8 (.t 5)),n (.store 1 (.t 64) T)]) (.seq (.reg [m 65 6,m 66 8,o 67 (.bin .add (.t 66) (i 1)),o 68 (.slc 0 (.t 65) (some
 (.t 67)) none),o 69 (.faddr 6 (.t 5)),n (.store 1 (.t 69) (.t 68))]) (.reg [m 70 6,m 71 8,o 72 (.slc 0 (.t 70) none (some (.t 71))),m 6 72]))) (.skip)))) (ir199_from9)
def ir199_from5:PC:=.seq (.seq (.reg [o 29 (.faddr 0 (.t 5)),l 30 29,o 31 (.call 200 [.t 30]),o 32 (.un .not (.t 31))]) (.cond (.t 32) (.seq (.reg [m 33 6,o 34 (.call 198
 [.t 33,.k (.val (.int .u8 35))]),m 7 34]) (.seq (.reg [m 35 6,m 36 7,o 37 (.slc 0 (.t 35) none (some (.t 36))),m 6 37]) (.seq (.reg [m 38 6,o 39 (.call 198 [.t 38,.k (.val
 (.int .u8 63))]),m 7 39]) (.seq (.reg [m 40 6,m 41 7,o 42 (.slc 0 (.t 40) none (some (.t 41))),o 43 (.faddr 4 (.t 5)),n (.store 1 (.t 43) (.t 42))]) (.seq (.draw [o 44 (.load
 true 9 (.t 5)),o 45 (.load true 9 (.t 5)),o 46 (.call 239 [.t 45])] [n (.store 9 (.t 2) (.t 44)),m 3 46]) (.ret)))))) (.skip))) (.seq (.seq (.reg [m 47 6,o 48 (.lens (.t 47)),
 o 49 (.bin .lss (.t 48) (i 2)),m 50 49,g 51 50 false (.mov (.t 6)),g 52 50 false (.slc 0 (.t 51) none (some (i 2))),g 53 50 false (.bin .neq (.t 52) (z #[47,47])),o 54 (.pick
 (.t 50) T (.t 53))]) (.cond (.t 54) (.seq (.reg [o 55 (.build [.val (.str ⟨#[]⟩),.val (.str ⟨#[]⟩),.val (.str ⟨#[]⟩),.val (.int .i64 0),.val (.str ⟨#[]⟩),.val (.str ⟨#[]⟩),
 .val (.str ⟨#[]⟩),.val (.bool false),.val (.bool false)] []),n (.store 9 (.t 2) (.t 55)),o 3 (.mov F)]) (.ret)) (.skip))) (.seq (.reg [m 56 6,o 57 (.slc 0 (.t 56) (some (i 2))
 none),m 6 57]) (ir199_from8)))
def ir199:PC:=.seq (.reg [o 2 (.alloc [.val (.str ⟨#[]⟩),.val (.str ⟨#[]⟩),.val (.str ⟨#[]⟩),.val (.int .i64 0),.val (.str ⟨#[]⟩),.val (.str ⟨#[]⟩),.val (.str ⟨#[]⟩),.val
 (.bool false),.val (.bool false)]),o 3 (.mov F)]) (.seq (.reg [m 13 0,o 14 (.call 198 [.t 13,.k (.val (.int .u8 58))]),m 4 14]) (.seq (.seq (.reg [m 15 4,m 16 0,o 17 (.lens
 (.t 16)),o 18 (.bin .eql (.t 15) (.t 17))]) (.cond (.t 18) (.seq (.reg [o 19 (.build [.val (.str ⟨#[]⟩),.val (.str ⟨#[]⟩),.val (.str ⟨#[]⟩),.val (.int .i64 0),.val (.str
 ⟨#[]⟩),.val (.str ⟨#[]⟩),.val (.str ⟨#[]⟩),.val (.bool false),.val (.bool false)] []),n (.store 9 (.t 2) (.t 19)),o 3 (.mov F)]) (.ret)) (.skip))) (.seq (.reg [m 20 0,m 21
 4,o 22 (.slc 0 (.t 20) none (some (.t 21))),o 23 (.call 133 [.t 22]),o 24 (.build [.val (.str ⟨#[]⟩),.val (.str ⟨#[]⟩),.val (.str ⟨#[]⟩),.val (.int .i64 0),.val (.str
 ⟨#[]⟩),.val (.str ⟨#[]⟩),.val (.str ⟨#[]⟩),.val (.bool false),.val (.bool false)] [(0,1,.t 23)]),o 5 (.alloc [.val (.str ⟨#[]⟩),.val (.str ⟨#[]⟩),.val (.str ⟨#[]⟩),.val
 (.int .i64 0),.val (.str ⟨#[]⟩),.val (.str ⟨#[]⟩),.val (.str ⟨#[]⟩),.val (.bool false),.val (.bool false)]),n (.store 9 (.t 5) (.t 24))]) (.seq (.reg [m 25 0,m 26 4,o 27
 (.bin .add (.t 26) (i 1)),o 28 (.slc 0 (.t 25) (some (.t 27)) none),m 6 28]) (ir199_from5)))))
theorem ok199:N5 Tryz.prog 199 ir199 1 [.c 2 true 9,.t 3]=true:=by kernel_rfl
end Go.Proofs
end
section
namespace Go.Proofs
open Go.PW Go.PW.I
def ir106:PC:=.seq (.reg [o 6 (.mov F)]) (.seq (.reg [m 7 1,m 8 0,o 9 (.bin .leq (.t 7) (.t 8)),m 10 9,g 11 10 true (.mov (.t 0)),g 12 10 true (.mov (.t 2)),g 13 10 true
 (.bin .leq (.t 11) (.t 12)),o 14 (.pick (.t 10) (.t 13) F),m 6 14]) (.ret))
theorem ok106:N5 Tryz.prog 106 ir106 3 [.t 6]=true:=by kernel_rfl
def ir125:PC:=.seq (.reg [o 4 (.mov (i 0))]) (.seq (.seq (.reg [m 5 0]) (.cond (.t 5) (.seq (.reg [o 4 (.mov (i 0))]) (.ret)) (.skip))) (.seq (.reg [m 6 1,m 4 6]) (.ret)))
theorem ok125:N5 Tryz.prog 125 ir125 2 [.t 4]=true:=by kernel_rfl
def ir84:PC:=.seq (.reg [o 2 (.mov (i 0))]) (.seq (.reg [m 3 0,o 4 (.lens (.t 3)),o 5 (.bin .leq (.t 4) (i 65536)),o 6 (.call 125 [.t 5,.k (.val (.int .i64 2))]),m 2 6])
 (.ret))
theorem ok84:N5 Tryz.prog 84 ir84 1 [.t 2]=true:=by kernel_rfl
def ir138:PC:=.seq (.reg [o 2 (.mov F)]) (.seq (.reg [m 3 0,o 4 (.bin .leq (.k (.val (.int .u8 97))) (.t 3)),m 5 4,g 6 5 true (.mov (.t 0)),g 7 5 true (.bin .leq (.t 6) (.k
 (.val (.int .u8 122)))),o 8 (.pick (.t 5) (.t 7) F),m 2 8]) (.ret))
theorem ok138:N5 Tryz.prog 138 ir138 1 [.t 2]=true:=by kernel_rfl
def ir260:PC:=.seq (.reg [o 2 (.mov F)]) (.seq (.reg [m 3 0,o 4 (.bin .leq (.k (.val (.int .u8 48))) (.t 3)),m 5 4,g 6 5 true (.mov (.t 0)),g 7 5 true (.bin .leq (.t 6) (.k
 (.val (.int .u8 57)))),o 8 (.pick (.t 5) (.t 7) F),m 2 8]) (.ret))
theorem ok260:N5 Tryz.prog 260 ir260 1 [.t 2]=true:=by kernel_rfl
def ir272_o18:List POper:=[g 18 17 true (.mov (.t 3)),g 19 17 true (.bin .eql (.t 18) (i 0)),g 20 17 true (.mov (.t 19)),g 21 20 false (.mov (.t 4)),g 22 20 false (.call 260
 [.t 21]),g 23 20 false (.un .not (.t 22)),g 24 20 false (.mov (.t 23)),g 25 24 true (.mov (.t 4)),g 26 24 true (.bin .neq (.t 25) (.k (.val (.int .u8 45)))),g 27 20 false
 (.pick (.t 24) (.t 26) F),g 28 20 false (.mov (.t 27)),g 29 28 true (.mov (.t 4)),g 30 28 true (.bin .neq (.t 29) (.k (.val (.int .u8 43)))),g 31 20 false (.pick (.t 28) (.t
 30) F),g 32 20 false (.mov (.t 31)),g 33 32 true (.mov (.t 4)),g 34 32 true (.bin .neq (.t 33) (.k (.val (.int .u8 46)))),g 35 20 false (.pick (.t 32) (.t 34) F),g 36 17 true
 (.pick (.t 20) T (.t 35)),o 37 (.pick (.t 17) (.t 36) F)]
def ir272_l9:PC:=.seq (.reg [o 9 (.bin .lss (.t 8) (.t 7))]) (.seq (.cond (.t 9) (.skip) (.exit 0)) (.seq (.block 1 (.seq (.reg [m 10 8,m 3 10]) (.seq (.reg [m 11 0,m 12 3,o
 13 (.idx (.t 11) (.t 12)),m 4 13]) (.seq (.reg (m 14 4 :: o 15 (.call 138 [.t 14]) :: o 16 (.un .not (.t 15)) :: m 17 16 :: ir272_o18)) (.cond (.t 37) (.seq (.reg [o 2 (.mov F)])
 (.ret)) (.skip)))))) (.reg [o 38 (.bin .add (.t 8) (i 1)),m 8 38])))
def ir272:PC:=.seq (.reg [o 2 (.mov F)]) (.seq (.seq (.reg [m 5 0,o 6 (.lens (.t 5)),o 7 (.mn (.t 6) (i 13)),o 8 (.mov (i 0))]) (.block 0 (.loop (.ghost ir272_l9)))) (.seq
 (.reg [m 39 0,o 40 (.lens (.t 39)),o 41 (.call 106 [.t 40,.k (.val (.int .i64 1)),.k (.val (.int .i64 12))]),m 2 41]) (.ret)))
theorem ok272:N5 Tryz.prog 272 ir272 1 [.t 2]=true:=by kernel_rfl
def ir274_o44:List POper:=[g 44 43 false (.mov (.t 0)),g 45 43 false (.mov (.t 3)),g 46 43 false (.bin .sub (.t 45) (i 1)),g 47 43 false (.idx (.t 44) (.t 46)),g 48 43 false
 (.bin .eql (.t 47) (.k (.val (.int .u8 46)))),o 49 (.pick (.t 43) T (.t 48))]
def ir274_o37:List POper:=g 37 36 false (.mov (.t 0)) :: g 38 36 false (.mov (.t 3)) :: g 39 36 false (.bin .sub (.t 38) (i 1)) :: g 40 36 false (.idx (.t 37) (.t 39)) :: g 41
 36 false (.bin .eql (.t 40) (.k (.val (.int .u8 45)))) :: o 42 (.pick (.t 36) T (.t 41)) :: m 43 42 :: ir274_o44
def ir274_o30:List POper:=g 30 29 false (.mov (.t 3)) :: g 31 29 false (.mov (.t 0)) :: g 32 29 false (.lens (.t 31)) :: g 33 29 false (.bin .sub (.t 32) (i 1)) :: g 34 29 false
 (.bin .eql (.t 30) (.t 33)) :: o 35 (.pick (.t 29) T (.t 34)) :: m 36 35 :: ir274_o37
def ir274_o26:List POper:=g 26 25 false (.mov (.t 3)) :: g 27 25 false (.bin .eql (.t 26) (i 0)) :: o 28 (.pick (.t 25) T (.t 27)) :: m 29 28 :: ir274_o30
def ir274_s19:PC:=.seq (.reg (m 19 4 :: o 20 (.bin .neq (.t 19) (.k (.val (.int .u8 45)))) :: m 21 20 :: g 22 21 true (.mov (.t 4)) :: g 23 21 true (.bin .neq (.t 22) (.k (.val
 (.int .u8 46)))) :: o 24 (.pick (.t 21) (.t 23) F) :: m 25 24 :: ir274_o26)) (.cond (.t 49) (.seq (.reg [o 2 (.mov F)]) (.ret)) (.skip))
def ir274_l8:PC:=.seq (.reg [o 8 (.bin .lss (.t 7) (.t 6))]) (.seq (.cond (.t 8) (.skip) (.exit 0)) (.seq (.block 1 (.seq (.reg [m 9 7,m 3 9]) (.seq (.reg [m 10 0,m 11 3,o 12
 (.idx (.t 10) (.t 11)),m 4 12]) (.seq (.seq (.reg [m 13 4,o 14 (.call 138 [.t 13]),m 15 14,g 16 15 false (.mov (.t 4)),g 17 15 false (.call 260 [.t 16]),o 18 (.pick (.t 15) T
 (.t 17))]) (.cond (.t 18) (.exit 1) (.skip))) (ir274_s19))))) (.reg [o 50 (.bin .add (.t 7) (i 1)),m 7 50])))
def ir274:PC:=.seq (.reg [o 2 (.mov F)]) (.seq (.seq (.reg [m 5 0,o 6 (.lens (.t 5)),o 7 (.mov (i 0))]) (.block 0 (.loop (.ghost ir274_l8)))) (.seq (.reg [m 51 0,o 52 (.bin
 .neq (.t 51) (z #[])),m 2 52]) (.ret)))
theorem ok274:N5 Tryz.prog 274 ir274 1 [.t 2]=true:=by kernel_rfl
def ir273:PC:=.seq (.reg [o 2 (.mov F)]) (.seq (.seq (.reg [m 4 0,o 5 (.lens (.t 4)),o 6 (.mov (i 0))]) (.block 0 (.loop (.ghost (.seq (.reg [o 7 (.bin .lss (.t 6) (.t 5))])
 (.seq (.cond (.t 7) (.skip) (.exit 0)) (.seq (.block 1 (.seq (.reg [m 8 6,m 3 8]) (.seq (.reg [m 9 0,m 10 3,o 11 (.idx (.t 9) (.t 10)),o 12 (.conv .i64 (.t 11)),o 13 (.call
 106 [.t 12,.k (.val (.int .i64 33)),.k (.val (.int .i64 126))]),o 14 (.un .not (.t 13))]) (.cond (.t 14) (.seq (.reg [o 2 (.mov F)]) (.ret)) (.skip))))) (.reg [o 15 (.bin .add
 (.t 6) (i 1)),m 6 15])))))))) (.seq (.reg [o 2 (.mov T)]) (.ret)))
theorem ok273:N5 Tryz.prog 273 ir273 1 [.t 2]=true:=by kernel_rfl
def ir156:PC:=.seq (.reg [o 1 (.box (.t 0)),o 2 (.mov F)]) (.seq (.reg [o 3 (.faddr 0 (.t 1)),l 4 3,o 5 (.bin .eql (.t 4) (z #[104,116,116,112])),m 6 5,g 7 6 false
 (.faddr 0 (.t 1)),g 8 6 false (.load false 1 (.t 7)),g 9 6 false (.bin .eql (.t 8) (z #[104,116,116,112,115])),o 10 (.pick (.t 6) T (.t 9)),m 2 10]) (.ret))
theorem ok156:N5 Tryz.prog 156 ir156 1 [.t 2]=true:=by kernel_rfl
def ir250:PC:=.seq (.reg [o 2 (.mov (i 0))]) (.seq (.seq (.reg [m 3 0,o 4 (.bin .eql (.t 3) (z #[104,116,116,112]))]) (.cond (.t 4) (.seq (.reg [o 2 (.mov (i 80))]) (.ret))
 (.skip))) (.seq (.reg [o 2 (.mov (i 443))]) (.ret)))
theorem ok250:N5 Tryz.prog 250 ir250 1 [.t 2]=true:=by kernel_rfl
def ir120:PC:=.seq (.reg [o 2 (.mov (z #[]))]) (.seq (.reg [m 3 0,o 4 (.call 183 [.t 3]),m 2 4]) (.ret))
theorem ok120:N5 Tryz.prog 120 ir120 1 [.t 2]=true:=by kernel_rfl
end Go.Proofs
end
section
namespace Go.Proofs
open Go.PW Go.PW.I
def ir157_from7:PC:=.seq (.seq (.reg [o 41 (.faddr 7 (.t 1)),l 42 41]) (.cond (.t 42) (.reg [m 43 3,o 44 (.faddr 5 (.t 1)),l 45 44,o 46 (.bin .add (z #[63]) (.t 45)),o 47
 (.bin .add (.t 43) (.t 46)),m 3 47]) (.skip))) (.seq (.seq (.reg [o 48 (.faddr 8 (.t 1)),l 49 48]) (.cond (.t 49) (.reg [m 50 3,o 51 (.faddr 6 (.t 1)),l 52 51,o 53 (.bin .add
 (z #[35]) (.t 52)),o 54 (.bin .add (.t 50) (.t 53)),m 3 54]) (.skip))) (.seq (.reg [m 55 3,m 2 55]) (.ret)))
def ir157_from6:PC:=.seq (.reg [m 37 3,o 38 (.faddr 4 (.t 1)),l 39 38,o 40 (.bin .add (.t 37) (.t 39)),m 3 40]) (ir157_from7)
def ir157_from5:PC:=.seq (.seq (.reg [o 28 (.faddr 3 (.t 1)),l 29 28,o 30 (.bin .neq (.t 29) (i 0))]) (.cond (.t 30) (.reg [m 31 3,o 32 (.faddr 3 (.t 1)),l 33 32,o 34
 (.call 120 [.t 33]),o 35 (.bin .add (z #[58]) (.t 34)),o 36 (.bin .add (.t 31) (.t 35)),m 3 36]) (.skip))) (ir157_from6)
def ir157_from4:PC:=.seq (.reg [m 24 3,o 25 (.faddr 2 (.t 1)),l 26 25,o 27 (.bin .add (.t 24) (.t 26)),m 3 27]) (ir157_from5)
def ir157_from2:PC:=.seq (.reg [o 13 (.faddr 0 (.t 1)),l 14 13,o 15 (.bin .add (.t 14) (z #[58,47,47])),m 3 15]) (.seq (.seq (.reg [o 16 (.faddr 1 (.t 1)),l 17 16,o 18
 (.bin .neq (.t 17) (z #[]))]) (.cond (.t 18) (.reg [m 19 3,o 20 (.faddr 1 (.t 1)),l 21 20,o 22 (.bin .add (.t 21) (z #[64])),o 23 (.bin .add (.t 19) (.t 22)),m 3 23])
 (.skip))) (ir157_from4))
def ir157:PC:=.seq (.reg [o 1 (.box (.t 0)),o 2 (.mov (z #[]))]) (.seq (.seq (.reg [o 4 (.load true 9 (.t 1)),o 5 (.call 156 [.t 4]),o 6 (.un .not (.t 5))]) (.cond (.t 6)
 (.seq (.reg [o 7 (.faddr 0 (.t 1)),l 8 7,o 9 (.bin .add (.t 8) (z #[58])),o 10 (.faddr 4 (.t 1)),l 11 10,o 12 (.bin .add (.t 9) (.t 11)),m 2 12]) (.ret)) (.skip)))
 (ir157_from2))
theorem ok157:N5 Tryz.prog 157 ir157 1 [.t 2]=true:=by kernel_rfl
def ir249_from4:PC:=.seq (.reg [m 23 4,m 24 5,o 25 (.isnil true false (.t 24)),m 26 25,g 27 26 true (.mov (.t 6)),g 28 26 true (.bin .leq (.t 27) (i 18)),o 29 (.pick (.t
 26) (.t 28) F),m 30 29,g 31 30 true (.mov (.t 4)),g 32 30 true (.call 183 [.t 31]),g 33 30 true (.mov (.t 0)),g 34 30 true (.bin .eql (.t 32) (.t 33)),o 35 (.pick (.t 30) (.t
 34) F),m 2 23,m 3 35]) (.ret)
def ir249:PC:=.seq (.reg [o 2 (.mov (i 0)),o 3 (.mov F)]) (.seq (.reg [m 8 0,o 9 (.call 277 [.t 8]),m 7 9,o 10 (.ext 0 (.t 7)),o 11 (.ext 1 (.t 7)),m 4 10,m 5 11]) (.seq
 (.reg [m 12 0,o 13 (.lens (.t 12)),m 6 13]) (.seq (.seq (.reg [m 14 0,o 15 (.bin .neq (.t 14) (z #[])),m 16 15,g 17 16 true (.mov (.t 0)),g 18 16 true (.idx (.t 17) (i 0)),g
 19 16 true (.bin .eql (.t 18) (.k (.val (.int .u8 45)))),o 20 (.pick (.t 16) (.t 19) F)]) (.cond (.t 20) (.reg [m 21 6,o 22 (.bin .sub (.t 21) (i 1)),m 6 22]) (.skip)))
 (ir249_from4))))
theorem ok249:N5 Tryz.prog 249 ir249 1 [.t 2,.t 3]=true:=by kernel_rfl
end Go.Proofs
end
section
namespace Go.Proofs
open Go.PW Go.PW.I
def ir247_o36:List POper:=[g 36 35 false (.faddr 1 (.t 1)),g 37 35 false (.load false 1 (.t 36)),g 38 35 false (.faddr 2 (.t 1)),g 39 35 false (.load false 1 (.t 38)),g 40
 35 false (.bin .add (.t 37) (.t 39)),g 41 35 false (.faddr 4 (.t 1)),g 42 35 false (.load false 1 (.t 41)),g 43 35 false (.bin .add (.t 40) (.t 42)),g 44 35 false (.faddr 5 (.t
 1)),g 45 35 false (.load false 1 (.t 44)),g 46 35 false (.bin .add (.t 43) (.t 45)),g 47 35 false (.faddr 6 (.t 1)),g 48 35 false (.load false 1 (.t 47)),g 49 35 false (.bin
 .add (.t 46) (.t 48)),g 50 35 false (.call 273 [.t 49]),g 51 35 false (.un .not (.t 50)),o 52 (.pick (.t 35) T (.t 51))]
def ir247_o30:List POper:=g 30 29 false (.load true 9 (.t 1)) :: g 31 29 false (.call 157 [.t 30]) :: g 32 29 false (.lens (.t 31)) :: g 33 29 false (.bin .gtr (.t 32) (i 100))
 :: o 34 (.pick (.t 29) T (.t 33)) :: m 35 34 :: ir247_o36
def ir247_o109:List POper:=[g 109 108 true (.faddr 8 (.t 1)),g 110 108 true (.load false 1 (.t 109)),g 111 108 true (.mov (.t 110)),g 112 111 false (.faddr 6 (.t 1)),g 113
 111 false (.load false 1 (.t 112)),g 114 111 false (.bin .eql (.t 113) (z #[])),g 115 108 true (.pick (.t 111) T (.t 114)),o 116 (.pick (.t 108) (.t 115) F)]
def ir247_o100:List POper:=g 100 99 true (.faddr 7 (.t 1)) :: g 101 99 true (.load false 1 (.t 100)) :: g 102 99 true (.mov (.t 101)) :: g 103 102 false (.faddr 5 (.t 1)) :: g
 104 102 false (.load false 1 (.t 103)) :: g 105 102 false (.bin .eql (.t 104) (z #[])) :: g 106 99 true (.pick (.t 102) T (.t 105)) :: o 107 (.pick (.t 99) (.t 106) F) :: m 108 107
 :: ir247_o109
def ir247_o94:List POper:=g 94 93 true (.faddr 5 (.t 1)) :: g 95 93 true (.load false 1 (.t 94)) :: g 96 93 true (.call 275 [.t 95,.k (.val (.str ⟨#[35]⟩))]) :: g 97 93 true
 (.un .not (.t 96)) :: o 98 (.pick (.t 93) (.t 97) F) :: m 99 98 :: ir247_o100
def ir247_o89:List POper:=g 89 88 true (.faddr 4 (.t 1)) :: g 90 88 true (.load false 1 (.t 89)) :: g 91 88 true (.call 228 [.t 90,.k (.val (.str ⟨#[47]⟩))]) :: o 92 (.pick (.t
 88) (.t 91) F) :: m 93 92 :: ir247_o94
def ir247_o81:List POper:=g 81 80 true (.faddr 3 (.t 1)) :: g 82 80 true (.load false 1 (.t 81)) :: g 83 80 true (.faddr 0 (.t 1)) :: g 84 80 true (.load false 1 (.t 83)) :: g
 85 80 true (.call 250 [.t 84]) :: g 86 80 true (.bin .neq (.t 82) (.t 85)) :: o 87 (.pick (.t 80) (.t 86) F) :: m 88 87 :: ir247_o89
def ir247_o76:List POper:=g 76 75 true (.faddr 3 (.t 1)) :: g 77 75 true (.load false 1 (.t 76)) :: g 78 75 true (.call 106 [.t 77,.k (.val (.int .i64 0)),.k (.val (.int .i64
 65535))]) :: o 79 (.pick (.t 75) (.t 78) F) :: m 80 79 :: ir247_o81
def ir247_from4:PC:=.seq (.draw (o 66 (.faddr 1 (.t 1)) :: l 67 66 :: o 68 (.call 154 [.t 67,.k (.val (.str ⟨#[47,63,35,64]⟩))]) :: o 69 (.un .not (.t 68)) :: m 70 69 :: g
 71 70 true (.faddr 2 (.t 1)) :: g 72 70 true (.load false 1 (.t 71)) :: g 73 70 true (.call 274 [.t 72]) :: o 74 (.pick (.t 70) (.t 73) F) :: m 75 74 :: ir247_o76) [m 2 116])
 (.ret)
def ir247_from3:PC:=.seq (.seq (.reg [o 56 (.load true 9 (.t 1)),o 57 (.call 156 [.t 56]),o 58 (.un .not (.t 57))]) (.cond (.t 58) (.seq (.reg [o 59 (.load true 9 (.t 1)),o
 60 (.faddr 0 (.t 1)),l 61 60,o 62 (.faddr 4 (.t 1)),l 63 62,o 64 (.build [.val (.str ⟨#[]⟩),.val (.str ⟨#[]⟩),.val (.str ⟨#[]⟩),.val (.int .i64 0),.val (.str ⟨#[]⟩),.val
 (.str ⟨#[]⟩),.val (.str ⟨#[]⟩),.val (.bool false),.val (.bool false)] [(0,1,.t 61),(4,1,.t 63)]),o 65 (.eqs false [0,0,0,2,0,0,0,1,1] (.t 59) (.t 64)),m 2 65])
 (.ret)) (.skip))) (ir247_from4)
def ir247_from2:PC:=.seq (.seq (.reg [o 53 (.faddr 4 (.t 1)),l 54 53,o 55 (.call 154 [.t 54,.k (.val (.str ⟨#[63,35]⟩))])]) (.cond (.t 55) (.seq (.reg [o 2 (.mov F)])
 (.ret)) (.skip))) (ir247_from3)
def ir247:PC:=.seq (.reg [o 1 (.box (.t 0)),o 2 (.mov F)]) (.seq (.seq (.reg (o 3 (.faddr 0 (.t 1)) :: l 4 3 :: o 5 (.call 272 [.t 4]) :: o 6 (.un .not (.t 5)) :: m 7 6 :: g 8
 7 false (.faddr 1 (.t 1)) :: g 9 7 false (.load false 1 (.t 8)) :: g 10 7 false (.lens (.t 9)) :: g 11 7 false (.faddr 2 (.t 1)) :: g 12 7 false (.load false 1 (.t 11)) :: g 13 7
 false (.lens (.t 12)) :: g 14 7 false (.bin .add (.t 10) (.t 13)) :: g 15 7 false (.faddr 4 (.t 1)) :: g 16 7 false (.load false 1 (.t 15)) :: g 17 7 false (.lens (.t 16)) :: g 18
 7 false (.bin .add (.t 14) (.t 17)) :: g 19 7 false (.faddr 5 (.t 1)) :: g 20 7 false (.load false 1 (.t 19)) :: g 21 7 false (.lens (.t 20)) :: g 22 7 false (.bin .add (.t 18) (.t
 21)) :: g 23 7 false (.faddr 6 (.t 1)) :: g 24 7 false (.load false 1 (.t 23)) :: g 25 7 false (.lens (.t 24)) :: g 26 7 false (.bin .add (.t 22) (.t 25)) :: g 27 7 false (.bin
 .gtr (.t 26) (i 100)) :: o 28 (.pick (.t 7) T (.t 27)) :: m 29 28 :: ir247_o30)) (.cond (.t 52) (.seq (.reg [o 2 (.mov F)]) (.ret)) (.skip))) (ir247_from2))
theorem ok247:N5 Tryz.prog 247 ir247 1 [.t 2]=true:=by kernel_rfl
end Go.Proofs
end
section
namespace Go.Proofs
open Go.PW Go.PW.I
def ir208_from15:PC:=.seq (.draw [o 123 (.load true 9 (.t 7)),o 124 (.load true 9 (.t 7)),o 125 (.call 247 [.t 124])] [n (.store 9 (.t 2) (.t 123)),m 3 125]) (.ret)
def ir208_from14:PC:=.seq (.reg [m 120 12,o 121 (.call 88 [.t 120]),o 122 (.faddr 2 (.t 7)),n (.store 1 (.t 122) (.t 121))]) (ir208_from15)
def ir208_from13:PC:=.seq (.seq (.reg [m 99 6]) (.cond (.t 99) (.seq (.reg [m 101 13,o 102 (.call 249 [.t 101]),m 100 102,o 103 (.ext 0 (.t 100)),o 104 (.ext 1 (.t 100)),m
 14 103,m 15 104]) (.seq (.seq (.reg [m 105 15,o 106 (.un .not (.t 105)),m 107 106,g 108 107 false (.mov (.t 14)),g 109 107 false (.call 106 [.t 108,.k (.val (.int .i64 1)),
 .k (.val (.int .i64 65535))]),g 110 107 false (.un .not (.t 109)),o 111 (.pick (.t 107) T (.t 110))]) (.cond (.t 111) (.seq (.reg [o 112 (.build [.val (.str ⟨#[]⟩),.val (.str
 ⟨#[]⟩),.val (.str ⟨#[]⟩),.val (.int .i64 0),.val (.str ⟨#[]⟩),.val (.str ⟨#[]⟩),.val (.str ⟨#[]⟩),.val (.bool false),.val (.bool false)] []),n (.store 9 (.t 2) (.t 112)),o
 3 (.mov F)]) (.ret)) (.skip))) (.seq (.reg [m 113 14,o 114 (.faddr 0 (.t 7)),l 115 114,o 116 (.call 250 [.t 115]),o 117 (.bin .neq (.t 113) (.t 116))]) (.cond (.t 117) (.reg [m
 118 14,o 119 (.faddr 3 (.t 7)),n (.store 1 (.t 119) (.t 118))]) (.skip))))) (.skip))) (ir208_from14)
def ir208_from12:PC:=.seq (.reg [m 94 5,o 95 (.call 153 [.t 94,.k (.val (.str ⟨#[58]⟩))]),m 93 95,o 96 (.ext 0 (.t 93)),o 97 (.ext 1 (.t 93)),o 98 (.ext 2 (.t 93)),m 12
 96,m 13 97,m 6 98]) (ir208_from13)
def ir208_from11:PC:=.seq (.seq (.reg [m 84 5,o 85 (.call 153 [.t 84,.k (.val (.str ⟨#[64]⟩))]),m 83 85,o 86 (.ext 0 (.t 83)),o 87 (.ext 1 (.t 83)),o 88 (.ext 2 (.t 83)),
 m 9 86,m 10 87,m 11 88]) (.seq (.reg [m 89 11]) (.cond (.t 89) (.reg [m 90 9,m 91 10,o 92 (.faddr 1 (.t 7)),n (.store 1 (.t 92) (.t 90)),m 5 91]) (.skip)))) (ir208_from12)
def ir208_from10:PC:=.seq (.seq (.reg [m 72 5,o 73 (.call 231 [.t 72,.k (.val (.int .u8 47))]),m 8 73]) (.seq (.reg [m 74 8,o 75 (.bin .geq (.t 74) (i 0))]) (.cond (.t 75)
 (.draw [m 76 5,m 77 8,o 78 (.slc 0 (.t 76) none (some (.t 77))),m 79 5,m 80 8,o 81 (.slc 0 (.t 79) (some (.t 80)) none),m 5 78] [o 82 (.faddr 4 (.t 7)),n (.store 1 (.t 82)
 (.t 81))]) (.skip)))) (ir208_from11)
def ir208_from7:PC:=.seq (.reg [m 56 5,o 57 (.call 153 [.t 56,.k (.val (.str ⟨#[35]⟩))]),m 55 57,o 58 (.ext 0 (.t 55)),o 59 (.ext 1 (.t 55)),o 60 (.ext 2 (.t 55)),m 5 58,
 o 61 (.faddr 6 (.t 7)),n (.store 1 (.t 61) (.t 59)),o 62 (.faddr 8 (.t 7)),n (.store 1 (.t 62) (.t 60))]) (.seq (.reg [m 64 5,o 65 (.call 153 [.t 64,.k (.val (.str
 ⟨#[63]⟩))]),m 63 65,o 66 (.ext 0 (.t 63)),o 67 (.ext 1 (.t 63)),o 68 (.ext 2 (.t 63)),m 5 66,o 69 (.faddr 5 (.t 7)),n (.store 1 (.t 69) (.t 67)),o 70 (.faddr 7 (.t 7)),n
 (.store 1 (.t 70) (.t 68))]) (.seq (.reg [o 71 (.faddr 4 (.t 7)),n (.store 1 (.t 71) (z #[47]))]) (ir208_from10)))
def ir208_from4:PC:=.seq (.seq (.reg [o 28 (.load true 9 (.t 7)),o 29 (.call 156 [.t 28]),o 30 (.un .not (.t 29))]) (.cond (.t 30) (.seq (.reg [m 32 5,o 33 (.call 153 [.t 32,
 .k (.val (.str ⟨#[35]⟩))]),m 31 33,o 34 (.ext 0 (.t 31)),o 35 (.ext 1 (.t 31)),o 36 (.ext 2 (.t 31)),m 5 34]) (.seq (.reg [m 38 5,o 39 (.call 153 [.t 38,.k (.val (.str
 ⟨#[63]⟩))]),m 37 39,o 40 (.ext 0 (.t 37)),o 41 (.ext 1 (.t 37)),o 42 (.ext 2 (.t 37)),o 43 (.faddr 4 (.t 7)),n (.store 1 (.t 43) (.t 40))]) (.seq (.draw [o 44 (.load true 9
 (.t 7)),o 45 (.load true 9 (.t 7)),o 46 (.call 247 [.t 45])] [n (.store 9 (.t 2) (.t 44)),m 3 46]) (.ret)))) (.skip))) (.seq (.reg [m 48 5,o 49 (.call 248 [.t 48,.k (.val
 (.str ⟨#[47,47]⟩))]),m 47 49,o 50 (.ext 0 (.t 47)),o 51 (.ext 1 (.t 47)),m 5 50,m 6 51]) (.seq (.seq (.reg [m 52 6,o 53 (.un .not (.t 52))]) (.cond (.t 53) (.seq (.reg [o 54
 (.build [.val (.str ⟨#[]⟩),.val (.str ⟨#[]⟩),.val (.str ⟨#[]⟩),.val (.int .i64 0),.val (.str ⟨#[]⟩),.val (.str ⟨#[]⟩),.val (.str ⟨#[]⟩),.val (.bool false),.val (.bool
 false)] []),n (.store 9 (.t 2) (.t 54)),o 3 (.mov F)]) (.ret)) (.skip))) (ir208_from7)))
def ir208:PC:=.seq (.reg [o 2 (.alloc [.val (.str ⟨#[]⟩),.val (.str ⟨#[]⟩),.val (.str ⟨#[]⟩),.val (.int .i64 0),.val (.str ⟨#[]⟩),.val (.str ⟨#[]⟩),.val (.str ⟨#[]⟩),.val
 (.bool false),.val (.bool false)]),o 3 (.mov F)]) (.seq (.reg [m 17 0,o 18 (.call 153 [.t 17,.k (.val (.str ⟨#[58]⟩))]),m 16 18,o 19 (.ext 0 (.t 16)),o 20 (.ext 1 (.t 16)),
 o 21 (.ext 2 (.t 16)),m 4 19,m 5 20,m 6 21]) (.seq (.reg [m 22 4,o 23 (.call 88 [.t 22]),o 24 (.build [.val (.str ⟨#[]⟩),.val (.str ⟨#[]⟩),.val (.str ⟨#[]⟩),.val (.int .i64
 0),.val (.str ⟨#[]⟩),.val (.str ⟨#[]⟩),.val (.str ⟨#[]⟩),.val (.bool false),.val (.bool false)] [(0,1,.t 23)]),o 7 (.alloc [.val (.str ⟨#[]⟩),.val (.str ⟨#[]⟩),.val (.str
 ⟨#[]⟩),.val (.int .i64 0),.val (.str ⟨#[]⟩),.val (.str ⟨#[]⟩),.val (.str ⟨#[]⟩),.val (.bool false),.val (.bool false)]),n (.store 9 (.t 7) (.t 24))]) (.seq (.seq (.reg [m 25
 6,o 26 (.un .not (.t 25))]) (.cond (.t 26) (.seq (.reg [o 27 (.build [.val (.str ⟨#[]⟩),.val (.str ⟨#[]⟩),.val (.str ⟨#[]⟩),.val (.int .i64 0),.val (.str ⟨#[]⟩),.val (.str
 ⟨#[]⟩),.val (.str ⟨#[]⟩),.val (.bool false),.val (.bool false)] []),n (.store 9 (.t 2) (.t 27)),o 3 (.mov F)]) (.ret)) (.skip))) (ir208_from4))))
theorem ok208:N5 Tryz.prog 208 ir208 1 [.c 2 true 9,.t 3]=true:=by kernel_rfl
end Go.Proofs
end
section
namespace Go.Proofs
open Go.PW Go.PW.I
def ir155:PC:=.seq (.reg [o 2 (.alloc [.val (.str ⟨#[]⟩),.val (.str ⟨#[]⟩),.val (.str ⟨#[]⟩),.val (.int .i64 0),.val (.str ⟨#[]⟩),.val (.str ⟨#[]⟩),.val (.str ⟨#[]⟩),.val
 (.bool false),.val (.bool false)]),o 3 (.mov (i 0))]) (.seq (.seq (.reg [m 7 0,o 8 (.call 84 [.t 7]),m 4 8]) (.seq (.reg [m 9 4,o 10 (.bin .neq (.t 9) (i 0))]) (.cond (.t 10)
 (.seq (.reg [o 11 (.build [.val (.str ⟨#[]⟩),.val (.str ⟨#[]⟩),.val (.str ⟨#[]⟩),.val (.int .i64 0),.val (.str ⟨#[]⟩),.val (.str ⟨#[]⟩),.val (.str ⟨#[]⟩),.val (.bool false),
 .val (.bool false)] []),m 12 4,n (.store 9 (.t 2) (.t 11)),m 3 12]) (.ret)) (.skip)))) (.seq (.reg [m 14 0,o 15 (.call 208 [.t 14]),m 13 15,o 16 (.ext 0 (.t 13)),o 17 (.ext
 1 (.t 13)),o 5 (.alloc [.val (.str ⟨#[]⟩),.val (.str ⟨#[]⟩),.val (.str ⟨#[]⟩),.val (.int .i64 0),.val (.str ⟨#[]⟩),.val (.str ⟨#[]⟩),.val (.str ⟨#[]⟩),.val (.bool false),
 .val (.bool false)]),n (.store 9 (.t 5) (.t 16)),m 6 17]) (.seq (.seq (.reg [m 18 6,o 19 (.un .not (.t 18))]) (.cond (.t 19) (.seq (.reg [o 20 (.build [.val (.str ⟨#[]⟩),.val
 (.str ⟨#[]⟩),.val (.str ⟨#[]⟩),.val (.int .i64 0),.val (.str ⟨#[]⟩),.val (.str ⟨#[]⟩),.val (.str ⟨#[]⟩),.val (.bool false),.val (.bool false)] []),n (.store 9 (.t 2) (.t
 20)),o 3 (.mov (i 3))]) (.ret)) (.skip))) (.seq (.reg [o 21 (.load true 9 (.t 5)),n (.store 9 (.t 2) (.t 21)),o 3 (.mov (i 0))]) (.ret)))))
theorem ok155:N5 Tryz.prog 155 ir155 1 [.c 2 true 9,.t 3]=true:=by kernel_rfl
def ir99_from4:PC:=.seq (.reg [o 20 (.load true 9 (.t 4)),o 21 (.call 157 [.t 20]),m 2 21,o 3 (.mov T)]) (.ret)
def ir99:PC:=.seq (.reg [o 2 (.mov (z #[])),o 3 (.mov F)]) (.seq (.reg [m 7 0,o 8 (.call 155 [.t 7]),m 6 8,o 9 (.ext 0 (.t 6)),o 10 (.ext 1 (.t 6)),o 4 (.alloc [.val (.str
 ⟨#[]⟩),.val (.str ⟨#[]⟩),.val (.str ⟨#[]⟩),.val (.int .i64 0),.val (.str ⟨#[]⟩),.val (.str ⟨#[]⟩),.val (.str ⟨#[]⟩),.val (.bool false),.val (.bool false)]),n (.store 9 (.t
 4) (.t 9)),m 5 10]) (.seq (.seq (.reg [m 11 5,o 12 (.bin .neq (.t 11) (i 0)),m 13 12,g 14 13 false (.load true 9 (.t 4)),g 15 13 false (.call 156 [.t 14]),g 16 13 false (.un
 .not (.t 15)),o 17 (.pick (.t 13) T (.t 16))]) (.cond (.t 17) (.seq (.reg [o 2 (.mov (z #[])),o 3 (.mov F)]) (.ret)) (.skip))) (.seq (.reg [o 18 (.faddr 6 (.t 4)),n (.store 1
 (.t 18) (z #[])),o 19 (.faddr 8 (.t 4)),n (.store 1 (.t 19) F)]) (ir99_from4))))
theorem ok99:N5 Tryz.prog 99 ir99 1 [.t 2,.t 3]=true:=by kernel_rfl
def ir165:PC:=.seq (.reg [o 2 (.box (.t 0)),o 3 (.mov F)]) (.seq (.reg [o 4 (.faddr 0 (.t 2)),l 5 4,l 6 1,o 7 (.bin .eql (.t 5) (.t 6)),m 3 7]) (.ret))
theorem ok165:N5 Tryz.prog 165 ir165 2 [.t 3]=true:=by kernel_rfl
def ir216:PC:=.seq (.reg [o 4 (.mov (i 0))]) (.seq (.seq (.reg [m 6 0,o 7 (.len (.t 6)),o 8 (.mov (i 0))]) (.block 0 (.loop (.ghost (.seq (.reg [o 9 (.bin .lss (.t 8) (.t
 7))]) (.seq (.cond (.t 9) (.skip) (.exit 0)) (.seq (.block 1 (.seq (.reg [m 10 8,m 5 10]) (.seq (.reg [m 11 1,m 12 0,m 13 5,o 14 (.iaddr 3 (.t 12) (.t 13)),o 15 (.load true 3
 (.t 14)),o 16 (.callv (.t 11) [.t 15])]) (.cond (.t 16) (.seq (.reg [m 17 5,m 4 17]) (.ret)) (.skip))))) (.reg [o 18 (.bin .add (.t 8) (i 1)),m 8 18])))))))) (.seq (.reg [o 4
 (.mov (i (-1)))]) (.ret)))
theorem ok216:N5 Tryz.prog 216 ir216 2 [.t 4]=true:=by kernel_rfl
def ir164:PC:=.seq (.reg [o 4 (.mov F)]) (.seq (.reg [m 5 0,m 6 1,o 7 (.call 216 [.t 5,.t 6]),o 8 (.bin .geq (.t 7) (i 0)),m 4 8]) (.ret))
theorem ok164:N5 Tryz.prog 164 ir164 2 [.t 4]=true:=by kernel_rfl
def ir108:PC:=.seq (.reg [o 3 (.box (.t 1)),o 4 (.mov F)]) (.seq (.reg [m 5 0,o 6 (.mkfn 165 [.t 3]),o 7 (.call 164 [.t 5,.t 6]),m 4 7]) (.ret))
theorem ok108:N5 Tryz.prog 108 ir108 2 [.t 4]=true:=by kernel_rfl
end Go.Proofs
end
section
namespace Go.Proofs
open Go.PW Go.PW.I
end Go.Proofs
end
section
namespace Go.Proofs
open Go.PW Go.PW.I
def ir214:PC:=.seq (.reg [o 2 (.mov F)]) (.seq (.reg [m 3 0,o 4 (.bin .geq (.t 3) (.k (.val (.int .u8 97)))),m 5 4,g 6 5 true (.mov (.t 0)),g 7 5 true (.bin .leq (.t 6) (.k
 (.val (.int .u8 122)))),o 8 (.pick (.t 5) (.t 7) F),m 9 8,g 10 9 false (.mov (.t 0)),g 11 9 false (.bin .geq (.t 10) (.k (.val (.int .u8 65)))),g 12 9 false (.mov (.t 11)),g
 13 12 true (.mov (.t 0)),g 14 12 true (.bin .leq (.t 13) (.k (.val (.int .u8 90)))),g 15 9 false (.pick (.t 12) (.t 14) F),o 16 (.pick (.t 9) T (.t 15)),m 17 16,g 18 17 false
 (.mov (.t 0)),g 19 17 false (.bin .eql (.t 18) (.k (.val (.int .u8 95)))),o 20 (.pick (.t 17) T (.t 19)),m 2 20]) (.ret))
theorem ok214:N5 Tryz.prog 214 ir214 1 [.t 2]=true:=by kernel_rfl
def ir161:PC:=.seq (.reg [o 2 (.mov F)]) (.seq (.seq (.reg [m 4 0,o 5 (.lens (.t 4)),o 6 (.bin .lss (.t 5) (i 1)),m 7 6,g 8 7 false (.mov (.t 0)),g 9 7 false (.lens (.t
 8)),g 10 7 false (.bin .gtr (.t 9) (i 12)),o 11 (.pick (.t 7) T (.t 10)),m 12 11,g 13 12 false (.mov (.t 0)),g 14 12 false (.idx (.t 13) (i 0)),g 15 12 false (.call 214 [.t
 14]),g 16 12 false (.un .not (.t 15)),o 17 (.pick (.t 12) T (.t 16))]) (.cond (.t 17) (.seq (.reg [o 2 (.mov F)]) (.ret)) (.skip))) (.seq (.seq (.reg [o 3 (.mov (i 1))]) (.block
 0 (.loop (.ghost (.seq (.seq (.reg [m 18 3,m 19 0,o 20 (.lens (.t 19)),o 21 (.bin .lss (.t 18) (.t 20))]) (.cond (.t 21) (.skip) (.exit 0))) (.seq (.block 1 (.seq (.reg [m 24 0,
 m 25 3,o 26 (.idx (.t 24) (.t 25)),o 27 (.call 214 [.t 26]),o 28 (.un .not (.t 27)),m 29 28,g 30 29 true (.mov (.t 0)),g 31 29 true (.mov (.t 3)),g 32 29 true (.idx (.t 30)
 (.t 31)),g 33 29 true (.call 215 [.t 32]),g 34 29 true (.un .not (.t 33)),o 35 (.pick (.t 29) (.t 34) F)]) (.cond (.t 35) (.seq (.reg [o 2 (.mov F)]) (.ret)) (.skip)))) (.reg [m
 22 3,o 23 (.bin .add (.t 22) (i 1)),m 3 23]))))))) (.seq (.reg [o 2 (.mov T)]) (.ret))))
theorem ok161:N5 Tryz.prog 161 ir161 1 [.t 2]=true:=by kernel_rfl
end Go.Proofs
end
section
namespace Go.Proofs
open Go.PW Go.PW.I
def ir105_s36:PC:=.seq (.reg [m 36 5,o 37 (.un .not (.t 36)),m 38 37,g 39 38 true (.mov (.t 3)),g 40 38 true (.bin .eql (.t 39) (i 0)),g 41 38 true (.mov (.t 40)),g 42 41
 false (.mov (.t 4)),g 43 41 false (.bin .lss (.t 42) (.k (.val (.int .u8 48)))),g 44 38 true (.pick (.t 41) T (.t 43)),g 45 38 true (.mov (.t 44)),g 46 45 false (.mov (.t 4)),
 g 47 45 false (.bin .gtr (.t 46) (.k (.val (.int .u8 57)))),g 48 38 true (.pick (.t 45) T (.t 47)),o 49 (.pick (.t 38) (.t 48) F)]) (.cond (.t 49) (.seq (.reg [o 2 (.mov F)])
 (.ret)) (.skip))
def ir105:PC:=.seq (.reg [o 2 (.mov F)]) (.seq (.seq (.reg [m 6 0,o 7 (.lens (.t 6)),o 8 (.call 106 [.t 7,.k (.val (.int .i64 1)),.k (.val (.int .i64 12))]),o 9 (.un .not
 (.t 8))]) (.cond (.t 9) (.seq (.reg [o 2 (.mov F)]) (.ret)) (.skip))) (.seq (.seq (.reg [m 10 0,o 11 (.lens (.t 10)),o 12 (.mov (i 0))]) (.block 0 (.loop (.ghost (.seq (.reg [o
 13 (.bin .lss (.t 12) (.t 11))]) (.seq (.cond (.t 13) (.skip) (.exit 0)) (.seq (.block 1 (.seq (.reg [m 14 12,m 3 14]) (.seq (.reg [m 15 0,m 16 3,o 17 (.idx (.t 15) (.t 16)),m
 4 17]) (.seq (.reg [m 18 4,o 19 (.bin .leq (.k (.val (.int .u8 97))) (.t 18)),m 20 19,g 21 20 true (.mov (.t 4)),g 22 20 true (.bin .leq (.t 21) (.k (.val (.int .u8 122)))),o
 23 (.pick (.t 20) (.t 22) F),m 24 23,g 25 24 false (.mov (.t 4)),g 26 24 false (.bin .leq (.k (.val (.int .u8 65))) (.t 25)),g 27 24 false (.mov (.t 26)),g 28 27 true (.mov
 (.t 4)),g 29 27 true (.bin .leq (.t 28) (.k (.val (.int .u8 90)))),g 30 24 false (.pick (.t 27) (.t 29) F),o 31 (.pick (.t 24) T (.t 30)),m 32 31,g 33 32 false (.mov (.t 4)),
 g 34 32 false (.bin .eql (.t 33) (.k (.val (.int .u8 95)))),o 35 (.pick (.t 32) T (.t 34)),m 5 35]) (ir105_s36))))) (.reg [o 50 (.bin .add (.t 12) (i 1)),m 12 50])))))))) (.seq
 (.reg [o 2 (.mov T)]) (.ret))))
theorem ok105:N5 Tryz.prog 105 ir105 1 [.t 2]=true:=by kernel_rfl
end Go.Proofs
end
section
namespace Go.Proofs
open Go.PW Go.PW.I
def ir163:PC:=.seq (.reg [o 4 (.mov (i 0))]) (.seq (.seq (.reg [o 5 (.mov (i 0))]) (.block 0 (.loop (.ghost (.seq (.seq (.reg [m 6 5,m 7 0,o 8 (.len (.t 7)),o 9 (.bin .lss
 (.t 6) (.t 8))]) (.cond (.t 9) (.skip) (.exit 0))) (.seq (.block 1 (.seq (.reg [m 12 0,m 13 5,o 14 (.iaddr 3 (.t 12) (.t 13)),o 15 (.faddr 0 (.t 14)),l 16 15,m 17 1,o 18
 (.bin .eql (.t 16) (.t 17))]) (.cond (.t 18) (.seq (.reg [m 19 5,m 4 19]) (.ret)) (.skip)))) (.reg [m 10 5,o 11 (.bin .add (.t 10) (i 1)),m 5 11]))))))) (.seq (.reg [o 4 (.mov
 (i (-1)))]) (.ret)))
theorem ok163:N5 Tryz.prog 163 ir163 2 [.t 4]=true:=by kernel_rfl
end Go.Proofs
end
section
namespace Go.Proofs
open Go.PW Go.PW.I
def ir166:PC:=.seq (.reg [o 2 (.box (.t 0)),o 3 (.box (.t 1)),o 4 (.mov F)]) (.seq (.seq (.reg [o 5 (.faddr 0 (.t 2)),l 6 5,o 7 (.faddr 0 (.t 3)),l 8 7,o 9 (.bin .neq (.t
 6) (.t 8))]) (.cond (.t 9) (.seq (.reg [o 4 (.mov F)]) (.ret)) (.skip))) (.seq (.seq (.reg [o 10 (.faddr 1 (.t 2)),l 11 10,o 12 (.faddr 1 (.t 3)),l 13 12,o 14 (.bin .neq (.t
 11) (.t 13))]) (.cond (.t 14) (.seq (.reg [o 4 (.mov F)]) (.ret)) (.skip))) (.seq (.seq (.reg [o 15 (.faddr 2 (.t 2)),l 16 15,o 17 (.faddr 2 (.t 3)),l 18 17,o 19 (.bin .neq (.t
 16) (.t 18))]) (.cond (.t 19) (.seq (.reg [o 4 (.mov F)]) (.ret)) (.skip))) (.seq (.reg [o 4 (.mov T)]) (.ret)))))
theorem ok166:N5 Tryz.prog 166 ir166 2 [.t 4]=true:=by kernel_rfl
end Go.Proofs
end
section
namespace Go.Proofs
open Go.PW Go.PW.I
def ir144:PC:=.seq (.reg [o 2 (.mov (z #[])),o 3 (.mov F)]) (.seq (.reg [m 7 0,o 8 (.call 199 [.t 7]),m 6 8,o 9 (.ext 0 (.t 6)),o 10 (.ext 1 (.t 6)),o 4 (.alloc [.val
 (.str ⟨#[]⟩),.val (.str ⟨#[]⟩),.val (.str ⟨#[]⟩),.val (.int .i64 0),.val (.str ⟨#[]⟩),.val (.str ⟨#[]⟩),.val (.str ⟨#[]⟩),.val (.bool false),.val (.bool false)]),n (.store
 9 (.t 4) (.t 9)),m 5 10]) (.seq (.seq (.reg [m 11 5,o 12 (.un .not (.t 11)),m 13 12,g 14 13 false (.faddr 0 (.t 4)),g 15 13 false (.load false 1 (.t 14)),g 16 13 false (.call
 200 [.t 15]),g 17 13 false (.un .not (.t 16)),o 18 (.pick (.t 13) T (.t 17))]) (.cond (.t 18) (.seq (.reg [o 2 (.mov (z #[])),o 3 (.mov F)]) (.ret)) (.skip))) (.seq (.reg [o 19
 (.faddr 8 (.t 4)),n (.store 1 (.t 19) F)]) (.seq (.reg [o 20 (.faddr 6 (.t 4)),n (.store 1 (.t 20) (z #[]))]) (.seq (.reg [o 21 (.load true 9 (.t 4)),o 22 (.call 201 [.t 21]),m
 2 22,o 3 (.mov T)]) (.ret))))))
theorem ok144:N5 Tryz.prog 144 ir144 1 [.t 2,.t 3]=true:=by kernel_rfl
def ir192:PC:=.seq (.reg [o 4 (.mov F)]) (.seq (.seq (.reg [o 5 (.mov (i 0))]) (.block 0 (.loop (.ghost (.seq (.seq (.reg [m 6 5,m 7 0,o 8 (.len (.t 7)),o 9 (.bin .lss (.t 6)
 (.t 8))]) (.cond (.t 9) (.skip) (.exit 0))) (.seq (.block 1 (.seq (.reg [m 12 0,m 13 5,o 14 (.iaddr 1 (.t 12) (.t 13)),l 15 14,m 16 1,o 17 (.bin .eql (.t 15) (.t 16))]) (.cond
 (.t 17) (.seq (.reg [o 4 (.mov T)]) (.ret)) (.skip)))) (.reg [m 10 5,o 11 (.bin .add (.t 10) (i 1)),m 5 11]))))))) (.seq (.reg [o 4 (.mov F)]) (.ret)))
theorem ok192:N5 Tryz.prog 192 ir192 2 [.t 4]=true:=by kernel_rfl
end Go.Proofs
end
section
namespace Go.Proofs
open Go.PW Go.PW.I
def ir119:PC:=.seq (.reg [o 4 (.mov (i 0))]) (.seq (.seq (.reg [m 6 0,o 7 (.len (.t 6)),o 8 (.mov (i 0))]) (.block 0 (.loop (.ghost (.seq (.reg [o 9 (.bin .lss (.t 8) (.t
 7))]) (.seq (.cond (.t 9) (.skip) (.exit 0)) (.seq (.block 1 (.seq (.reg [m 10 8,m 5 10]) (.seq (.reg [m 11 1,m 12 0,m 13 5,o 14 (.iaddr 1 (.t 12) (.t 13)),l 15 14,o 16 (.bin
 .eql (.t 11) (.t 15))]) (.cond (.t 16) (.seq (.reg [m 17 5,m 4 17]) (.ret)) (.skip))))) (.reg [o 18 (.bin .add (.t 8) (i 1)),m 8 18])))))))) (.seq (.reg [o 4 (.mov (i (-1)))])
 (.ret)))
theorem ok119:N5 Tryz.prog 119 ir119 2 [.t 4]=true:=by kernel_rfl
def ir140:PC:=.seq (.reg [o 4 (.mov F)]) (.seq (.reg [m 5 0,m 6 1,o 7 (.call 119 [.t 5,.t 6]),o 8 (.bin .geq (.t 7) (i 0)),m 4 8]) (.ret))
theorem ok140:N5 Tryz.prog 140 ir140 2 [.t 4]=true:=by kernel_rfl
end Go.Proofs
end
section
namespace Go.Proofs
open Go.PW Go.PW.I
def ir109:PC:=.seq (.reg [o 4 (.mov F)]) (.seq (.seq (.reg [m 6 0,o 7 (.len (.t 6)),m 8 1,o 9 (.len (.t 8)),o 10 (.bin .neq (.t 7) (.t 9))]) (.cond (.t 10) (.seq (.reg [o 4
 (.mov F)]) (.ret)) (.skip))) (.seq (.seq (.reg [o 5 (.mov (i 0))]) (.block 0 (.loop (.ghost (.seq (.seq (.reg [m 11 5,m 12 0,o 13 (.len (.t 12)),o 14 (.bin .lss (.t 11) (.t
 13))]) (.cond (.t 14) (.skip) (.exit 0))) (.seq (.block 1 (.seq (.draw [m 17 0,m 18 5,o 19 (.iaddr 3 (.t 17) (.t 18)),o 20 (.load true 3 (.t 19)),m 21 1,m 22 5,o 23 (.iaddr 3
 (.t 21) (.t 22)),o 24 (.load true 3 (.t 23))] [o 25 (.call 166 [.t 20,.t 24]),o 26 (.un .not (.t 25))]) (.cond (.t 26) (.seq (.reg [o 4 (.mov F)]) (.ret)) (.skip)))) (.reg [m 15
 5,o 16 (.bin .add (.t 15) (i 1)),m 5 16]))))))) (.seq (.reg [o 4 (.mov T)]) (.ret))))
theorem ok109:N5 Tryz.prog 109 ir109 2 [.t 4]=true:=by kernel_rfl
def ir47:PC:=.seq (.reg [o 2 (.box (.t 0)),o 3 (.box (.t 1)),o 4 (.mov F)]) (.seq (.seq (.reg [o 5 (.faddr 0 (.t 2)),l 6 5,o 7 (.faddr 0 (.t 3)),l 8 7,o 9 (.bin .neq (.t
 6) (.t 8))]) (.cond (.t 9) (.seq (.reg [o 4 (.mov F)]) (.ret)) (.skip))) (.seq (.seq (.reg [o 10 (.faddr 1 (.t 2)),l 11 10,o 12 (.faddr 1 (.t 3)),l 13 12,o 14 (.bin .neq (.t
 11) (.t 13))]) (.cond (.t 14) (.seq (.reg [o 4 (.mov F)]) (.ret)) (.skip))) (.seq (.seq (.reg [o 15 (.faddr 2 (.t 2)),l 16 15,o 17 (.faddr 2 (.t 3)),l 18 17,o 19 (.call 109 [.t
 16,.t 18]),o 20 (.un .not (.t 19))]) (.cond (.t 20) (.seq (.reg [o 4 (.mov F)]) (.ret)) (.skip))) (.seq (.reg [o 4 (.mov T)]) (.ret)))))
theorem ok47:N5 Tryz.prog 47 ir47 2 [.t 4]=true:=by kernel_rfl
end Go.Proofs
end
section
namespace Go.Proofs
open Go.PW Go.PW.I
def ir63:PC:=.seq (.reg [o 2 (.mov (z #[]))]) (.seq (.seq (.reg [m 4 0,o 5 (.bin .leq (.t 4) (i 0))]) (.cond (.t 5) (.seq (.reg [o 2 (.mov (z #[109,48]))]) (.ret)) (.skip)))
 (.seq (.reg [o 3 (.mov (z #[]))]) (.seq (.block 0 (.loop (.ghost (.seq (.seq (.reg [m 6 0,o 7 (.bin .gtr (.t 6) (i 0))]) (.cond (.t 7) (.skip) (.exit 0))) (.block 1 (.seq (.reg [m
 8 0,o 9 (.bin .rem (.t 8) (i 10)),o 10 (.bin .add (i 48) (.t 9)),o 11 (.conv .u8 (.t 10)),o 12 (.lit 5 1 [.t 11]),o 13 (.tostr (.t 12)),m 14 3,o 15 (.bin .add (.t 13) (.t
 14)),m 3 15]) (.reg [m 16 0,o 17 (.bin .quo (.t 16) (i 10)),m 0 17]))))))) (.seq (.reg [m 18 3,o 19 (.bin .add (z #[109]) (.t 18)),m 2 19]) (.ret)))))
theorem ok63:N5 Tryz.prog 63 ir63 1 [.t 2]=true:=by kernel_rfl
def ir101_l6:PC:=.seq (.seq (.reg [m 6 5,m 7 0,o 8 (.len (.t 7)),o 9 (.bin .lss (.t 6) (.t 8))]) (.cond (.t 9) (.skip) (.exit 0))) (.seq (.block 1 (.seq (.reg [m 12 0,m 13
 5,m 14 1,o 15 (.call 63 [.t 14]),o 16 (.iaddr 3 (.t 12) (.t 13)),o 17 (.faddr 0 (.t 16)),n (.store 1 (.t 17) (.t 15))]) (.seq (.reg [m 18 1,o 19 (.bin .add (.t 18) (i 1)),m
 1 19]) (.seq (.reg [m 20 0,m 21 5,m 22 1,o 23 (.iaddr 3 (.t 20) (.t 21)),o 24 (.faddr 1 (.t 23)),n (.store 1 (.t 24) (.t 22))]) (.seq (.reg [m 25 1,o 26 (.bin .add (.t 25) (i
 1)),m 1 26]) (.seq (.reg [m 27 0,m 28 5,m 29 1,o 30 (.iaddr 3 (.t 27) (.t 28)),o 31 (.faddr 2 (.t 30)),n (.store 1 (.t 31) (.t 29))]) (.reg [m 32 1,o 33 (.bin .add (.t 32)
 (i 1)),m 1 33]))))))) (.reg [m 10 5,o 11 (.bin .add (.t 10) (i 1)),m 5 11]))
def ir101:PC:=.seq (.reg [o 4 (.mov (i 0))]) (.seq (.seq (.reg [o 5 (.mov (i 0))]) (.block 0 (.loop (.ghost ir101_l6)))) (.seq (.reg [m 34 1,m 4 34]) (.ret)))
theorem ok101:N5 Tryz.prog 101 ir101 2 [.t 4]=true:=by kernel_rfl
end Go.Proofs
end
section
namespace Go.Proofs
open Go.PW Go.PW.I
def ir48:PC:=.seq (.reg [o 2 (.box (.t 0)),o 4 (.mov (i 0))]) (.seq (.reg [o 5 (.faddr 2 (.t 2)),l 6 5,m 7 1,o 8 (.callr 101 (.t 6) [.t 7]),m 1 8]) (.seq (.reg [m 9 1,m 4
 9]) (.ret)))
theorem ok48:N5 Tryz.prog 48 ir48 2 [.t 4]=true:=by kernel_rfl
def ir102_l6:PC:=.seq (.seq (.reg [m 6 5,m 7 0,o 8 (.len (.t 7)),o 9 (.bin .lss (.t 6) (.t 8))]) (.cond (.t 9) (.skip) (.exit 0))) (.seq (.block 1 (.seq (.seq (.draw [m 12 0,
 m 13 5,o 14 (.iaddr 3 (.t 12) (.t 13)),o 15 (.faddr 0 (.t 14)),l 16 15,m 17 1,o 18 (.call 63 [.t 17])] [o 19 (.bin .neq (.t 16) (.t 18))]) (.cond (.t 19) (.seq (.reg [o 4
 (.mov (i (-1)))]) (.ret)) (.skip))) (.seq (.reg [m 20 1,o 21 (.bin .add (.t 20) (i 1)),m 1 21]) (.seq (.seq (.reg [m 22 0,m 23 5,o 24 (.iaddr 3 (.t 22) (.t 23)),o 25 (.faddr 1
 (.t 24)),l 26 25,m 27 1,o 28 (.bin .neq (.t 26) (.t 27))]) (.cond (.t 28) (.seq (.reg [o 4 (.mov (i (-1)))]) (.ret)) (.skip))) (.seq (.reg [m 29 1,o 30 (.bin .add (.t 29) (i
 1)),m 1 30]) (.seq (.seq (.reg [m 31 0,m 32 5,o 33 (.iaddr 3 (.t 31) (.t 32)),o 34 (.faddr 2 (.t 33)),l 35 34,m 36 1,o 37 (.bin .neq (.t 35) (.t 36))]) (.cond (.t 37) (.seq
 (.reg [o 4 (.mov (i (-1)))]) (.ret)) (.skip))) (.reg [m 38 1,o 39 (.bin .add (.t 38) (i 1)),m 1 39]))))))) (.reg [m 10 5,o 11 (.bin .add (.t 10) (i 1)),m 5 11]))
def ir102:PC:=.seq (.reg [o 4 (.mov (i 0))]) (.seq (.seq (.reg [o 5 (.mov (i 0))]) (.block 0 (.loop (.ghost ir102_l6)))) (.seq (.reg [m 40 1,m 4 40]) (.ret)))
theorem ok102:N5 Tryz.prog 102 ir102 2 [.t 4]=true:=by kernel_rfl
def ir49:PC:=.seq (.reg [o 2 (.box (.t 0)),o 4 (.mov (i 0))]) (.seq (.reg [o 5 (.faddr 2 (.t 2)),l 6 5,m 7 1,o 8 (.call 102 [.t 6,.t 7]),m 1 8]) (.seq (.seq (.reg [m 9 1,
 o 10 (.bin .lss (.t 9) (i 0))]) (.cond (.t 10) (.seq (.reg [o 4 (.mov (i (-1)))]) (.ret)) (.skip))) (.seq (.reg [m 11 1,m 4 11]) (.ret))))
theorem ok49:N5 Tryz.prog 49 ir49 2 [.t 4]=true:=by kernel_rfl
end Go.Proofs
end
section
namespace Go.Proofs
open Go.PW Go.PW.I
end Go.Proofs
end
section
namespace Go.Proofs
open Go.PW Go.PW.I
def ir209:PC:=.seq (.reg [m 4 0,o 5 (.nilck (.t 4)),o 6 (.faddr 2 (.t 5)),l 7 6,o 8 (.bin .eql (.t 7) (i 0))]) (.cond (.t 8) (.reg [m 9 0,m 10 1,o 11 (.nilck (.t 9)),o 12
 (.faddr 2 (.t 11)),n (.store 1 (.t 12) (.t 10))]) (.skip))
theorem ok209:N5 Tryz.prog 209 ir209 2 []=true:=by kernel_rfl
def ir159:PC:=.block 0 (.loop (.ghost (.seq (.seq (.draw [m 2 0,o 3 (.nilck (.t 2)),o 4 (.faddr 1 (.t 3)),l 5 4,m 6 0,o 7 (.nilck (.t 6)),o 8 (.faddr 0 (.t 7)),l 9 8,o
 10 (.lens (.t 9)),o 11 (.bin .lss (.t 5) (.t 10)),m 12 11,g 13 12 true (.mov (.t 0)),g 14 12 true (.nilck (.t 13)),g 15 12 true (.faddr 0 (.t 14)),g 16 12 true (.load false 1
 (.t 15)),g 17 12 true (.mov (.t 0)),g 18 12 true (.nilck (.t 17)),g 19 12 true (.faddr 1 (.t 18)),g 20 12 true (.load false 1 (.t 19)),g 21 12 true (.idx (.t 16) (.t 20)),g
 22 12 true (.bin .eql (.t 21) (.k (.val (.int .u8 32)))),g 23 12 true (.mov (.t 22)),g 24 23 false (.mov (.t 0)),g 25 23 false (.nilck (.t 24)),g 26 23 false (.faddr 0 (.t
 25)),g 27 23 false (.load false 1 (.t 26)),g 28 23 false (.mov (.t 0)),g 29 23 false (.nilck (.t 28)),g 30 23 false (.faddr 1 (.t 29)),g 31 23 false (.load false 1 (.t 30)),g
 32 23 false (.idx (.t 27) (.t 31)),g 33 23 false (.bin .eql (.t 32) (.k (.val (.int .u8 9)))),g 34 12 true (.pick (.t 23) T (.t 33)),g 35 12 true (.mov (.t 34)),g 36 35 false
 (.mov (.t 0)),g 37 35 false (.nilck (.t 36)),g 38 35 false (.faddr 0 (.t 37)),g 39 35 false (.load false 1 (.t 38)),g 40 35 false (.mov (.t 0)),g 41 35 false (.nilck (.t 40)),
 g 42 35 false (.faddr 1 (.t 41)),g 43 35 false (.load false 1 (.t 42)),g 44 35 false (.idx (.t 39) (.t 43)),g 45 35 false (.bin .eql (.t 44) (.k (.val (.int .u8 10)))),g 46 12
 true (.pick (.t 35) T (.t 45)),g 47 12 true (.mov (.t 46)),g 48 47 false (.mov (.t 0)),g 49 47 false (.nilck (.t 48)),g 50 47 false (.faddr 0 (.t 49)),g 51 47 false (.load
 false 1 (.t 50)),g 52 47 false (.mov (.t 0)),g 53 47 false (.nilck (.t 52)),g 54 47 false (.faddr 1 (.t 53)),g 55 47 false (.load false 1 (.t 54)),g 56 47 false (.idx (.t 51)
 (.t 55)),g 57 47 false (.bin .eql (.t 56) (.k (.val (.int .u8 13)))),g 58 12 true (.pick (.t 47) T (.t 57)),o 59 (.pick (.t 12) (.t 58) F)] []) (.cond (.t 59) (.skip) (.exit
 0))) (.block 1 (.reg [m 60 0,o 61 (.nilck (.t 60)),o 62 (.faddr 1 (.t 61)),l 63 62,o 64 (.bin .add (.t 63) (i 1)),o 65 (.nilck (.t 60)),o 66 (.faddr 1 (.t 65)),n (.store 1
 (.t 66) (.t 64))])))))
theorem ok159:N5 Tryz.prog 159 ir159 1 []=true:=by kernel_rfl
def ir251:PC:=.seq (.reg [o 4 (.mov F)]) (.seq (.seq (.draw [m 5 0,o 6 (.nilck (.t 5)),o 7 (.faddr 2 (.t 6)),l 8 7,o 9 (.bin .neq (.t 8) (i 0)),m 10 9,g 11 10 false (.mov
 (.t 0)),g 12 10 false (.nilck (.t 11)),g 13 10 false (.faddr 1 (.t 12)),g 14 10 false (.load false 1 (.t 13)),g 15 10 false (.mov (.t 0)),g 16 10 false (.nilck (.t 15)),g 17
 10 false (.faddr 0 (.t 16)),g 18 10 false (.load false 1 (.t 17)),g 19 10 false (.lens (.t 18)),g 20 10 false (.bin .eql (.t 14) (.t 19)),o 21 (.pick (.t 10) T (.t 20)),m 22
 21,g 23 22 false (.mov (.t 0)),g 24 22 false (.nilck (.t 23)),g 25 22 false (.faddr 0 (.t 24)),g 26 22 false (.load false 1 (.t 25)),g 27 22 false (.mov (.t 0)),g 28 22 false
 (.nilck (.t 27)),g 29 22 false (.faddr 1 (.t 28)),g 30 22 false (.load false 1 (.t 29)),g 31 22 false (.idx (.t 26) (.t 30)),g 32 22 false (.mov (.t 1)),g 33 22 false (.bin
 .neq (.t 31) (.t 32)),o 34 (.pick (.t 22) T (.t 33))] []) (.cond (.t 34) (.seq (.reg [o 4 (.mov F)]) (.ret)) (.skip))) (.seq (.reg [m 35 0,o 36 (.nilck (.t 35)),o 37 (.faddr 1
 (.t 36)),l 38 37,o 39 (.bin .add (.t 38) (i 1)),o 40 (.nilck (.t 35)),o 41 (.faddr 1 (.t 40)),n (.store 1 (.t 41) (.t 39))]) (.seq (.reg [o 4 (.mov T)]) (.ret))))
theorem ok251:N5 Tryz.prog 251 ir251 2 [.t 4]=true:=by kernel_rfl
def ir210:PC:=.seq (.seq (.draw [m 4 0,o 5 (.nilck (.t 4)),o 6 (.faddr 1 (.t 5)),l 7 6,m 8 1,o 9 (.lens (.t 8)),o 10 (.bin .add (.t 7) (.t 9)),m 11 0,o 12 (.nilck (.t
 11)),o 13 (.faddr 0 (.t 12)),l 14 13,o 15 (.lens (.t 14)),o 16 (.bin .gtr (.t 10) (.t 15)),m 17 16,g 18 17 false (.mov (.t 0)),g 19 17 false (.nilck (.t 18)),g 20 17 false
 (.faddr 0 (.t 19)),g 21 17 false (.load false 1 (.t 20)),g 22 17 false (.mov (.t 0)),g 23 17 false (.nilck (.t 22)),g 24 17 false (.faddr 1 (.t 23)),g 25 17 false (.load false
 1 (.t 24)),g 26 17 false (.mov (.t 0)),g 27 17 false (.nilck (.t 26)),g 28 17 false (.faddr 1 (.t 27)),g 29 17 false (.load false 1 (.t 28)),g 30 17 false (.mov (.t 1)),g 31
 17 false (.lens (.t 30)),g 32 17 false (.bin .add (.t 29) (.t 31)),g 33 17 false (.slc 0 (.t 21) (some (.t 25)) (some (.t 32))),g 34 17 false (.mov (.t 1)),g 35 17 false (.bin
 .neq (.t 33) (.t 34)),o 36 (.pick (.t 17) T (.t 35))] []) (.cond (.t 36) (.seq (.reg [m 37 0,o 38 (.call 209 [.t 37,.k (.val (.int .i64 3))])]) (.ret)) (.skip))) (.reg [m 39 0,
 o 40 (.nilck (.t 39)),o 41 (.faddr 1 (.t 40)),l 42 41,m 43 1,o 44 (.lens (.t 43)),o 45 (.bin .add (.t 42) (.t 44)),o 46 (.nilck (.t 39)),o 47 (.faddr 1 (.t 46)),n (.store 1
 (.t 47) (.t 45))])
theorem ok210:N5 Tryz.prog 210 ir210 2 []=true:=by kernel_rfl
def ir278:PC:=.seq (.reg [o 2 (.mov (i 0))]) (.seq (.block 0 (.seq (.reg [m 4 0,o 5 (.call 215 [.t 4]),m 3 5]) (.cond (.t 3) (.seq (.reg [m 6 0,o 7 (.conv .i64 (.t 6)),o 8
 (.bin .sub (.t 7) (i 48)),m 2 8]) (.ret)) (.seq (.reg [m 10 0,o 11 (.bin .geq (.t 10) (.k (.val (.int .u8 97)))),m 12 11,g 13 12 true (.mov (.t 0)),g 14 12 true (.bin .leq (.t
 13) (.k (.val (.int .u8 102)))),o 15 (.pick (.t 12) (.t 14) F),m 9 15]) (.cond (.t 9) (.seq (.reg [m 16 0,o 17 (.conv .i64 (.t 16)),o 18 (.bin .sub (.t 17) (i 87)),m 2 18])
 (.ret)) (.seq (.reg [m 20 0,o 21 (.bin .geq (.t 20) (.k (.val (.int .u8 65)))),m 22 21,g 23 22 true (.mov (.t 0)),g 24 22 true (.bin .leq (.t 23) (.k (.val (.int .u8 70)))),o
 25 (.pick (.t 22) (.t 24) F),m 19 25]) (.cond (.t 19) (.seq (.reg [m 26 0,o 27 (.conv .i64 (.t 26)),o 28 (.bin .sub (.t 27) (i 55)),m 2 28]) (.ret)) (.skip)))))))) (.seq (.reg
 [o 2 (.mov (i (-1)))]) (.ret)))
theorem ok278:N5 Tryz.prog 278 ir278 1 [.t 2]=true:=by kernel_rfl
def ir252:PC:=.seq (.reg [o 2 (.mov (i 0))]) (.seq (.seq (.draw [m 7 0,o 8 (.nilck (.t 7)),o 9 (.faddr 1 (.t 8)),l 10 9,m 11 0,o 12 (.nilck (.t 11)),o 13 (.faddr 0 (.t
 12)),l 14 13,o 15 (.lens (.t 14)),o 16 (.bin .eql (.t 10) (.t 15))] []) (.cond (.t 16) (.seq (.reg [o 2 (.mov (i (-1)))]) (.ret)) (.skip))) (.seq (.draw [m 17 0,o 18 (.nilck
 (.t 17)),o 19 (.faddr 0 (.t 18)),l 20 19,m 21 0,o 22 (.nilck (.t 21)),o 23 (.faddr 1 (.t 22)),l 24 23] [o 25 (.idx (.t 20) (.t 24)),m 3 25]) (.seq (.reg [m 26 0,o 27
 (.nilck (.t 26)),o 28 (.faddr 1 (.t 27)),l 29 28,o 30 (.bin .add (.t 29) (i 1)),o 31 (.nilck (.t 26)),o 32 (.faddr 1 (.t 31)),n (.store 1 (.t 32) (.t 30))]) (.seq (.seq (.reg
 [m 33 3,o 34 (.call 198 [.k (.val (.str ⟨#[34,92,47,98,102,110,114,116]⟩)),.t 33]),m 4 34]) (.seq (.reg [m 35 4,o 36 (.bin .lss (.t 35) (i 8))]) (.cond (.t 36) (.seq
 (.reg [o 37 (.lit 3 1 [.k (.val (.int .i64 34)),.k (.val (.int .i64 92)),.k (.val (.int .i64 47)),.k (.val (.int .i64 8)),.k (.val (.int .i64 12)),.k (.val (.int .i64 10)),.k
 (.val (.int .i64 13)),.k (.val (.int .i64 9))]),m 38 4,o 39 (.iaddr 1 (.t 37) (.t 38)),l 40 39,m 2 40]) (.ret)) (.skip)))) (.seq (.seq (.draw [m 41 3,o 42 (.bin .neq (.t 41)
 (.k (.val (.int .u8 117)))),m 43 42,g 44 43 false (.mov (.t 0)),g 45 43 false (.nilck (.t 44)),g 46 43 false (.faddr 1 (.t 45)),g 47 43 false (.load false 1 (.t 46)),g 48 43
 false (.bin .add (.t 47) (i 4)),g 49 43 false (.mov (.t 0)),g 50 43 false (.nilck (.t 49)),g 51 43 false (.faddr 0 (.t 50)),g 52 43 false (.load false 1 (.t 51)),g 53 43 false
 (.lens (.t 52)),g 54 43 false (.bin .gtr (.t 48) (.t 53)),o 55 (.pick (.t 43) T (.t 54)),m 56 55,g 57 56 false (.mov (.t 0)),g 58 56 false (.nilck (.t 57)),g 59 56 false
 (.faddr 0 (.t 58)),g 60 56 false (.load false 1 (.t 59)),g 61 56 false (.mov (.t 0)),g 62 56 false (.nilck (.t 61)),g 63 56 false (.faddr 1 (.t 62)),g 64 56 false (.load false
 1 (.t 63)),g 65 56 false (.mov (.t 0)),g 66 56 false (.nilck (.t 65)),g 67 56 false (.faddr 1 (.t 66)),g 68 56 false (.load false 1 (.t 67)),g 69 56 false (.bin .add (.t 68)
 (i 2)),g 70 56 false (.slc 0 (.t 60) (some (.t 64)) (some (.t 69))),g 71 56 false (.bin .neq (.t 70) (z #[48,48])),o 72 (.pick (.t 56) T (.t 71))] []) (.cond (.t 72) (.seq
 (.reg [o 2 (.mov (i (-1)))]) (.ret)) (.skip))) (.seq (.draw [m 73 0,o 74 (.nilck (.t 73)),o 75 (.faddr 0 (.t 74)),l 76 75,m 77 0,o 78 (.nilck (.t 77)),o 79 (.faddr 1 (.t
 78)),l 80 79,o 81 (.bin .add (.t 80) (i 2)),o 82 (.idx (.t 76) (.t 81)),o 83 (.call 278 [.t 82])] [m 5 83]) (.seq (.draw [m 84 0,o 85 (.nilck (.t 84)),o 86 (.faddr 0 (.t
 85)),l 87 86,m 88 0,o 89 (.nilck (.t 88)),o 90 (.faddr 1 (.t 89)),l 91 90,o 92 (.bin .add (.t 91) (i 3)),o 93 (.idx (.t 87) (.t 92)),o 94 (.call 278 [.t 93])] [m 6 94])
 (.seq (.reg [m 95 0,o 96 (.nilck (.t 95)),o 97 (.faddr 1 (.t 96)),l 98 97,o 99 (.bin .add (.t 98) (i 4)),o 100 (.nilck (.t 95)),o 101 (.faddr 1 (.t 100)),n (.store 1 (.t
 101) (.t 99))]) (.seq (.seq (.reg [m 102 5,o 103 (.bin .lss (.t 102) (i 0)),m 104 103,g 105 104 false (.mov (.t 6)),g 106 104 false (.bin .lss (.t 105) (i 0)),o 107 (.pick (.t
 104) T (.t 106))]) (.cond (.t 107) (.seq (.reg [o 2 (.mov (i (-1)))]) (.ret)) (.skip))) (.seq (.reg [m 108 5,o 109 (.bin .mul (i 16) (.t 108)),m 110 6,o 111 (.bin .add (.t 109)
 (.t 110)),m 2 111]) (.ret)))))))))))
theorem ok252:N5 Tryz.prog 252 ir252 1 [.t 2]=true:=by kernel_rfl
def ir211:PC:=.seq (.reg [o 2 (.mov (z #[]))]) (.seq (.reg [o 5 (.lit 5 1 []),m 3 5]) (.seq (.seq (.reg [m 6 0,o 7 (.call 251 [.t 6,.k (.val (.int .u8 34))]),o 8 (.un .not
 (.t 7))]) (.cond (.t 8) (.seq (.reg [m 9 0,o 10 (.call 209 [.t 9,.k (.val (.int .i64 3))])]) (.seq (.reg [o 2 (.mov (z #[]))]) (.ret))) (.skip))) (.seq (.block 0 (.loop (.ghost
 (.seq (.seq (.draw [m 11 0,o 12 (.nilck (.t 11)),o 13 (.faddr 1 (.t 12)),l 14 13,m 15 0,o 16 (.nilck (.t 15)),o 17 (.faddr 0 (.t 16)),l 18 17,o 19 (.lens (.t 18)),o 20
 (.bin .lss (.t 14) (.t 19))] []) (.cond (.t 20) (.skip) (.exit 0))) (.block 1 (.seq (.draw [m 21 0,o 22 (.nilck (.t 21)),o 23 (.faddr 0 (.t 22)),l 24 23,m 25 0,o 26 (.nilck
 (.t 25)),o 27 (.faddr 1 (.t 26)),l 28 27,o 29 (.idx (.t 24) (.t 28)),o 30 (.conv .i64 (.t 29))] [m 4 30]) (.seq (.reg [m 31 0,o 32 (.nilck (.t 31)),o 33 (.faddr 1 (.t 32)),l
 34 33,o 35 (.bin .add (.t 34) (i 1)),o 36 (.nilck (.t 31)),o 37 (.faddr 1 (.t 36)),n (.store 1 (.t 37) (.t 35))]) (.seq (.seq (.reg [m 38 4,o 39 (.bin .eql (.t 38) (i 34))])
 (.cond (.t 39) (.seq (.seq (.reg [m 40 3,o 41 (.len (.t 40)),o 42 (.bin .gtr (.t 41) (i 120))]) (.cond (.t 42) (.reg [m 43 0,o 44 (.call 209 [.t 43,.k (.val (.int .i64 8))])])
 (.skip))) (.seq (.reg [m 45 3,o 46 (.tostr (.t 45)),m 2 46]) (.ret))) (.skip))) (.seq (.seq (.reg [m 47 4,o 48 (.bin .eql (.t 47) (i 92))]) (.cond (.t 48) (.reg [m 49 0,o 50
 (.call 252 [.t 49]),m 4 50]) (.seq (.reg [m 51 4,o 52 (.bin .lss (.t 51) (i 32)),m 53 52,g 54 53 false (.mov (.t 4)),g 55 53 false (.bin .gtr (.t 54) (i 126)),o 56 (.pick (.t
 53) T (.t 55))]) (.cond (.t 56) (.reg [o 4 (.mov (i (-1)))]) (.skip))))) (.seq (.seq (.reg [m 57 4,o 58 (.bin .lss (.t 57) (i 0))]) (.cond (.t 58) (.exit 0) (.skip))) (.reg [m 59
 3,m 60 4,o 61 (.conv .u8 (.t 60)),o 62 (.lit 5 1 [.t 61]),o 63 (.app 5 1 1 (.t 59) (.t 62)),m 3 63]))))))))))) (.seq (.reg [m 64 0,o 65 (.call 209 [.t 64,.k (.val (.int .i64
 3))])]) (.seq (.reg [o 2 (.mov (z #[]))]) (.ret))))))
theorem ok211:N5 Tryz.prog 211 ir211 1 [.t 2]=true:=by kernel_rfl
def ir213_from4:PC:=.seq (.draw [m 47 0,o 48 (.nilck (.t 47)),o 49 (.faddr 0 (.t 48)),l 50 49,m 51 0,o 52 (.nilck (.t 51)),o 53 (.faddr 1 (.t 52)),l 54 53,m 55 3,o 56
 (.slc 0 (.t 50) (some (.t 54)) (some (.t 55))),o 57 (.call 240 [.t 56]),m 46 57,o 58 (.ext 0 (.t 46)),o 59 (.ext 1 (.t 46)),m 4 58] [m 5 59]) (.seq (.seq (.reg [m 60 5,o 61
 (.un .not (.t 60))]) (.cond (.t 61) (.seq (.reg [m 62 0,o 63 (.call 209 [.t 62,.k (.val (.int .i64 3))])]) (.seq (.reg [o 2 (.mov (i 0))]) (.ret))) (.skip))) (.seq (.seq (.reg [m
 64 4,o 65 (.call 129 [.t 64,.k (.val (.int .i64 (-999999999))),.k (.val (.int .i64 999999999))]),o 66 (.un .not (.t 65))]) (.cond (.t 66) (.seq (.reg [m 67 0,o 68 (.call 209
 [.t 67,.k (.val (.int .i64 4))])]) (.seq (.reg [o 2 (.mov (i 0))]) (.ret))) (.skip))) (.seq (.reg [m 69 0,m 70 3,o 71 (.nilck (.t 69)),o 72 (.faddr 1 (.t 71)),n (.store 1 (.t
 72) (.t 70))]) (.seq (.reg [m 73 4,m 2 73]) (.ret)))))
def ir213_from3:PC:=.seq (.block 0 (.loop (.ghost (.seq (.seq (.reg [m 28 3,m 29 0,o 30 (.nilck (.t 29)),o 31 (.faddr 0 (.t 30)),l 32 31,o 33 (.lens (.t 32)),o 34 (.bin
 .lss (.t 28) (.t 33)),m 35 34,g 36 35 true (.mov (.t 0)),g 37 35 true (.nilck (.t 36)),g 38 35 true (.faddr 0 (.t 37)),g 39 35 true (.load false 1 (.t 38)),g 40 35 true (.mov
 (.t 3)),g 41 35 true (.idx (.t 39) (.t 40)),g 42 35 true (.call 215 [.t 41]),o 43 (.pick (.t 35) (.t 42) F)]) (.cond (.t 43) (.skip) (.exit 0))) (.block 1 (.reg [m 44 3,o 45
 (.bin .add (.t 44) (i 1)),m 3 45])))))) (ir213_from4)
def ir213:PC:=.seq (.reg [o 2 (.mov (i 0))]) (.seq (.reg [m 6 0,o 7 (.nilck (.t 6)),o 8 (.faddr 1 (.t 7)),l 9 8,m 3 9]) (.seq (.seq (.reg [m 10 3,m 11 0,o 12 (.nilck (.t
 11)),o 13 (.faddr 0 (.t 12)),l 14 13,o 15 (.lens (.t 14)),o 16 (.bin .lss (.t 10) (.t 15)),m 17 16,g 18 17 true (.mov (.t 0)),g 19 17 true (.nilck (.t 18)),g 20 17 true
 (.faddr 0 (.t 19)),g 21 17 true (.load false 1 (.t 20)),g 22 17 true (.mov (.t 3)),g 23 17 true (.idx (.t 21) (.t 22)),g 24 17 true (.bin .eql (.t 23) (.k (.val (.int .u8
 45)))),o 25 (.pick (.t 17) (.t 24) F)]) (.cond (.t 25) (.reg [m 26 3,o 27 (.bin .add (.t 26) (i 1)),m 3 27]) (.skip))) (ir213_from3)))
theorem ok213:N5 Tryz.prog 213 ir213 1 [.t 2]=true:=by kernel_rfl
def ir158:PC:=.seq (.reg [o 4 (.alloc [.val (.int .i64 0),.val (.int .i64 0),.val (.str ⟨#[]⟩),.emp 1,.emp 5])]) (.seq (.reg [o 7 (.lit 9 1 []),o 8 (.lit 81 5 []),o 9
 (.build [.val (.int .i64 0),.val (.int .i64 0),.val (.str ⟨#[]⟩),.emp 1,.emp 5] [(3,1,.t 7),(4,1,.t 8)]),o 5 (.alloc [.val (.int .i64 0),.val (.int .i64 0),.val (.str
 ⟨#[]⟩),.emp 1,.emp 5]),n (.store 5 (.t 5) (.t 9))]) (.seq (.reg [m 10 0,o 11 (.call 159 [.t 10])]) (.seq (.seq (.draw [m 12 0,o 13 (.nilck (.t 12)),o 14 (.faddr 1 (.t 13)),l
 15 14,m 16 0,o 17 (.nilck (.t 16)),o 18 (.faddr 0 (.t 17)),l 19 18,o 20 (.lens (.t 19)),o 21 (.bin .eql (.t 15) (.t 20))] []) (.cond (.t 21) (.seq (.reg [m 22 0,o 23 (.call
 209 [.t 22,.k (.val (.int .i64 3))])]) (.seq (.reg [o 24 (.load true 5 (.t 5)),n (.store 5 (.t 4) (.t 24))]) (.ret))) (.skip))) (.seq (.seq (.draw [m 25 0,o 26 (.nilck (.t 25)),
 o 27 (.faddr 0 (.t 26)),l 28 27,m 29 0,o 30 (.nilck (.t 29)),o 31 (.faddr 1 (.t 30)),l 32 31] [o 33 (.idx (.t 28) (.t 32)),m 6 33]) (.seq (.reg [m 34 6]) (.block 0 (.seq
 (.reg [o 40 (.bin .eql (.t 34) (.k (.val (.int .u8 110)))),m 39 40]) (.cond (.t 39) (.seq (.reg [o 41 (.faddr 0 (.t 5)),n (.store 1 (.t 41) (i 1))]) (.reg [m 42 0,o 43 (.call
 210 [.t 42,.k (.val (.str ⟨#[110,117,108,108]⟩))])])) (.seq (.reg [o 45 (.bin .eql (.t 34) (.k (.val (.int .u8 116)))),m 44 45]) (.cond (.t 44) (.seq (.reg [o 46 (.faddr 0 (.t
 5)),n (.store 1 (.t 46) (i 2))]) (.seq (.reg [o 47 (.faddr 1 (.t 5)),n (.store 1 (.t 47) (i 1))]) (.reg [m 48 0,o 49 (.call 210 [.t 48,.k (.val (.str ⟨#[116,114,117,
 101]⟩))])]))) (.seq (.reg [o 51 (.bin .eql (.t 34) (.k (.val (.int .u8 102)))),m 50 51]) (.cond (.t 50) (.seq (.reg [o 52 (.faddr 0 (.t 5)),n (.store 1 (.t 52) (i 2))]) (.reg [m
 53 0,o 54 (.call 210 [.t 53,.k (.val (.str ⟨#[102,97,108,115,101]⟩))])])) (.seq (.reg [o 56 (.bin .eql (.t 34) (.k (.val (.int .u8 34)))),m 55 56]) (.cond (.t 55) (.seq
 (.reg [o 57 (.faddr 0 (.t 5)),n (.store 1 (.t 57) (i 4))]) (.reg [m 58 0,o 59 (.call 211 [.t 58]),o 60 (.faddr 2 (.t 5)),n (.store 1 (.t 60) (.t 59))])) (.seq (.reg [o 62 (.bin
 .eql (.t 34) (.k (.val (.int .u8 91)))),m 61 62]) (.cond (.t 61) (.seq (.reg [o 63 (.faddr 0 (.t 5)),n (.store 1 (.t 63) (i 5))]) (.reg [m 64 0,m 65 1,o 66 (.call 212 [.t 64,
 .t 5,.k (.val (.int .u8 93)),.t 65])])) (.seq (.reg [o 68 (.bin .eql (.t 34) (.k (.val (.int .u8 123)))),m 67 68]) (.cond (.t 67) (.seq (.reg [o 69 (.faddr 0 (.t 5)),n (.store
 1 (.t 69) (i 6))]) (.reg [m 70 0,m 71 1,o 72 (.call 212 [.t 70,.t 5,.k (.val (.int .u8 125)),.t 71])])) (.seq (.reg [o 35 (.faddr 0 (.t 5)),n (.store 1 (.t 35) (i 3))]) (.reg
 [m 36 0,o 37 (.call 213 [.t 36]),o 38 (.faddr 1 (.t 5)),n (.store 1 (.t 38) (.t 37))]))))))))))))))))) (.seq (.reg [o 73 (.load true 5 (.t 5)),n (.store 5 (.t 4) (.t 73))])
 (.ret))))))
theorem ok158:N5 Tryz.prog 158 ir158 2 [.c 4 true 5]=true:=by kernel_rfl
def ir212:PC:=.seq (.seq (.reg [m 8 3,o 9 (.bin .eql (.t 8) (i 1))]) (.cond (.t 9) (.seq (.reg [m 10 0,o 11 (.call 209 [.t 10,.k (.val (.int .i64 12))])]) (.ret)) (.skip)))
 (.reg [m 12 0,m 13 1,m 14 2,m 15 3,o 16 (.call 253 [.t 12,.t 13,.t 14,.t 15])])
theorem ok212:N5 Tryz.prog 212 ir212 4 []=true:=by kernel_rfl
def ir253_s44:PC:=.seq (.reg [m 44 0,o 45 (.call 159 [.t 44])]) (.seq (.seq (.reg [m 46 0,o 47 (.call 251 [.t 46,.k (.val (.int .u8 58))]),o 48 (.un .not (.t 47))]) (.cond
 (.t 48) (.reg [m 49 0,o 50 (.call 209 [.t 49,.k (.val (.int .i64 3))])]) (.skip))) (.reg [m 51 1,m 52 1,o 53 (.nilck (.t 52)),o 54 (.faddr 3 (.t 53)),l 55 54,m 56 8,o 57
 (.lit 9 1 [.t 56]),o 58 (.app 9 1 16 (.t 55) (.t 57)),o 59 (.nilck (.t 51)),o 60 (.faddr 3 (.t 59)),n (.store 1 (.t 60) (.t 58))]))
def ir253_s34:PC:=.seq (.reg [m 34 0,o 35 (.call 211 [.t 34]),m 8 35]) (.seq (.seq (.reg [m 36 1,o 37 (.nilck (.t 36)),o 38 (.faddr 3 (.t 37)),l 39 38,m 40 8,o 41 (.call
 192 [.t 39,.t 40])]) (.cond (.t 41) (.reg [m 42 0,o 43 (.call 209 [.t 42,.k (.val (.int .i64 13))])]) (.skip))) (ir253_s44))
def ir253_s81:PC:=.seq (.seq (.reg [m 81 1,o 82 (.nilck (.t 81)),o 83 (.faddr 4 (.t 82)),l 84 83,o 85 (.len (.t 84)),o 86 (.bin .gtr (.t 85) (i 12))]) (.cond (.t 86) (.reg
 [m 87 0,o 88 (.call 209 [.t 87,.k (.val (.int .i64 6))])]) (.skip))) (.seq (.reg [m 89 0,o 90 (.call 159 [.t 89])]) (.seq (.seq (.reg [m 91 0,m 92 2,o 93 (.call 251 [.t 91,.t
 92])]) (.cond (.t 93) (.ret) (.skip))) (.seq (.reg [m 94 0,o 95 (.call 251 [.t 94,.k (.val (.int .u8 44))]),o 96 (.un .not (.t 95))]) (.cond (.t 96) (.reg [m 97 0,o 98 (.call
 209 [.t 97,.k (.val (.int .i64 3))])]) (.skip)))))
def ir253_s61:PC:=.seq (.seq (.reg [m 61 0,o 62 (.nilck (.t 61)),o 63 (.faddr 2 (.t 62)),l 64 63,o 65 (.bin .neq (.t 64) (i 0))]) (.cond (.t 65) (.ret) (.skip))) (.seq (.reg
 [m 66 0,m 67 3,o 68 (.bin .sub (.t 67) (i 1)),o 69 (.call 158 [.t 66,.t 68]),o 9 (.alloc [.val (.int .i64 0),.val (.int .i64 0),.val (.str ⟨#[]⟩),.emp 1,.emp 5]),n
 (.store 5 (.t 9) (.t 69))]) (.seq (.mix (.early 0 (m 70 1) (.early 1 (o 71 (.nilck (.t 70))) (.early 2 (o 72 (.faddr 4 (.t 71))) (.early 3 (l 73 72) (.early 4 (o 74 (.load true 5
 (.t 9))) (.early 5 (o 75 (.len (.t 73))) (.early 6 (o 76 (.lit 81 5 [.k (.agg [.val (.int .i64 0),.val (.int .i64 0),.val (.str ⟨#[]⟩),.emp 1,.emp 5])])) (.step 7 (o 77 (.app
 81 5 80 (.t 73) (.t 76))) [] (.early 8 (o 78 (.iaddr 5 (.t 77) (.t 75))) (.early 10 (o 79 (.nilck (.t 70))) (.early 11 (o 80 (.faddr 4 (.t 79))) (.alt 9 (n (.store 5 (.t 78) (.t
 74))) [10,11] (.step 12 (n (.store 1 (.t 80) (.t 77))) [] .done) (.alt 12 (n (.store 1 (.t 80) (.t 77))) [8] (.step 9 (n (.store 5 (.t 78) (.t 74))) [] .done) .stop))))))))))))))
 (ir253_s81)))
def ir253:PC:=.seq (.reg [m 10 0,o 11 (.nilck (.t 10)),o 12 (.faddr 1 (.t 11)),l 13 12,o 14 (.bin .add (.t 13) (i 1)),o 15 (.nilck (.t 10)),o 16 (.faddr 1 (.t 15)),n
 (.store 1 (.t 16) (.t 14))]) (.seq (.reg [m 17 0,o 18 (.call 159 [.t 17])]) (.seq (.seq (.reg [m 19 0,m 20 2,o 21 (.call 251 [.t 19,.t 20])]) (.cond (.t 21) (.ret) (.skip)))
 (.block 0 (.loop (.ghost (.seq (.seq (.reg [m 22 0,o 23 (.nilck (.t 22)),o 24 (.faddr 2 (.t 23)),l 25 24,o 26 (.bin .eql (.t 25) (i 0))]) (.cond (.t 26) (.skip) (.exit 0)))
 (.block 1 (.seq (.reg [m 27 0,o 28 (.call 159 [.t 27])]) (.seq (.seq (.reg [m 29 1,o 30 (.nilck (.t 29)),o 31 (.faddr 0 (.t 30)),l 32 31,o 33 (.bin .eql (.t 32) (i 6))])
 (.cond (.t 33) (ir253_s34) (.skip))) (ir253_s61))))))))))
theorem ok253:N5 Tryz.prog 253 ir253 4 []=true:=by kernel_rfl
def ir103:PC:=.seq (.reg [o 2 (.alloc [.val (.int .i64 0),.val (.int .i64 0),.val (.str ⟨#[]⟩),.emp 1,.emp 5]),o 3 (.mov (i 0))]) (.seq (.reg [m 6 0,o 7 (.build [.val
 (.str ⟨#[]⟩),.val (.int .i64 0),.val (.int .i64 0)] [(0,1,.t 6)]),o 8 (.box (.t 7)),m 4 8]) (.seq (.reg [m 9 4,o 10 (.call 158 [.t 9,.k (.val (.int .i64 5))]),o 5 (.alloc
 [.val (.int .i64 0),.val (.int .i64 0),.val (.str ⟨#[]⟩),.emp 1,.emp 5]),n (.store 5 (.t 5) (.t 10))]) (.seq (.reg [m 11 4,o 12 (.call 159 [.t 11])]) (.seq (.seq (.reg [m 13
 4,o 14 (.nilck (.t 13)),o 15 (.faddr 2 (.t 14)),l 16 15,o 17 (.bin .eql (.t 16) (i 0)),m 18 17,g 19 18 true (.mov (.t 4)),g 20 18 true (.nilck (.t 19)),g 21 18 true (.faddr
 1 (.t 20)),g 22 18 true (.load false 1 (.t 21)),g 23 18 true (.mov (.t 0)),g 24 18 true (.lens (.t 23)),g 25 18 true (.bin .neq (.t 22) (.t 24)),o 26 (.pick (.t 18) (.t 25)
 F)]) (.cond (.t 26) (.reg [m 27 4,o 28 (.nilck (.t 27)),o 29 (.faddr 2 (.t 28)),n (.store 1 (.t 29) (i 3))]) (.skip))) (.seq (.seq (.reg [m 30 4,o 31 (.nilck (.t 30)),o 32
 (.faddr 2 (.t 31)),l 33 32,o 34 (.bin .neq (.t 33) (i 0))]) (.cond (.t 34) (.seq (.any (.alt 0 (o 35 (.build [.val (.int .i64 0),.val (.int .i64 0),.val (.str ⟨#[]⟩),.emp 1,
 .emp 5] [])) (.alt 1 (m 36 4) (.alt 2 (o 37 (.nilck (.t 36))) (.alt 3 (o 38 (.faddr 2 (.t 37))) (.alt 4 (l 39 38) (.alt 5 (n (.store 5 (.t 2) (.t 35))) (.alt 6 (m 3 39) .done
 .stop) .stop) (.alt 5 (n (.store 5 (.t 2) (.t 35))) (.alt 4 (l 39 38) (.alt 6 (m 3 39) .done .stop) .stop) .stop)) (.alt 5 (n (.store 5 (.t 2) (.t 35))) (.alt 3 (o 38 (.faddr 2 (.t
 37))) (.alt 4 (l 39 38) (.alt 6 (m 3 39) .done .stop) .stop) .stop) .stop)) (.alt 5 (n (.store 5 (.t 2) (.t 35))) (.alt 2 (o 37 (.nilck (.t 36))) (.alt 3 (o 38 (.faddr 2 (.t 37)))
 (.alt 4 (l 39 38) (.alt 6 (m 3 39) .done .stop) .stop) .stop) .stop) .stop)) (.alt 5 (n (.store 5 (.t 2) (.t 35))) (.alt 1 (m 36 4) (.alt 2 (o 37 (.nilck (.t 36))) (.alt 3 (o 38
 (.faddr 2 (.t 37))) (.alt 4 (l 39 38) (.alt 6 (m 3 39) .done .stop) .stop) .stop) .stop) .stop) .stop)) (.alt 1 (m 36 4) (.alt 0 (o 35 (.build [.val (.int .i64 0),.val (.int .i64
 0),.val (.str ⟨#[]⟩),.emp 1,.emp 5] [])) (.alt 2 (o 37 (.nilck (.t 36))) (.alt 3 (o 38 (.faddr 2 (.t 37))) (.alt 4 (l 39 38) (.alt 5 (n (.store 5 (.t 2) (.t 35))) (.alt 6 (m 3
 39) .done .stop) .stop) (.alt 5 (n (.store 5 (.t 2) (.t 35))) (.alt 4 (l 39 38) (.alt 6 (m 3 39) .done .stop) .stop) .stop)) (.alt 5 (n (.store 5 (.t 2) (.t 35))) (.alt 3 (o 38
 (.faddr 2 (.t 37))) (.alt 4 (l 39 38) (.alt 6 (m 3 39) .done .stop) .stop) .stop) .stop)) (.alt 5 (n (.store 5 (.t 2) (.t 35))) (.alt 2 (o 37 (.nilck (.t 36))) (.alt 3 (o 38
 (.faddr 2 (.t 37))) (.alt 4 (l 39 38) (.alt 6 (m 3 39) .done .stop) .stop) .stop) .stop) .stop)) (.alt 2 (o 37 (.nilck (.t 36))) (.alt 0 (o 35 (.build [.val (.int .i64 0),.val
 (.int .i64 0),.val (.str ⟨#[]⟩),.emp 1,.emp 5] [])) (.alt 3 (o 38 (.faddr 2 (.t 37))) (.alt 4 (l 39 38) (.alt 5 (n (.store 5 (.t 2) (.t 35))) (.alt 6 (m 3 39) .done .stop)
 .stop) (.alt 5 (n (.store 5 (.t 2) (.t 35))) (.alt 4 (l 39 38) (.alt 6 (m 3 39) .done .stop) .stop) .stop)) (.alt 5 (n (.store 5 (.t 2) (.t 35))) (.alt 3 (o 38 (.faddr 2 (.t 37)))
 (.alt 4 (l 39 38) (.alt 6 (m 3 39) .done .stop) .stop) .stop) .stop)) (.alt 3 (o 38 (.faddr 2 (.t 37))) (.alt 0 (o 35 (.build [.val (.int .i64 0),.val (.int .i64 0),.val (.str
 ⟨#[]⟩),.emp 1,.emp 5] [])) (.alt 4 (l 39 38) (.alt 5 (n (.store 5 (.t 2) (.t 35))) (.alt 6 (m 3 39) .done .stop) .stop) (.alt 5 (n (.store 5 (.t 2) (.t 35))) (.alt 4 (l 39 38)
 (.alt 6 (m 3 39) .done .stop) .stop) .stop)) (.alt 4 (l 39 38) (.alt 0 (o 35 (.build [.val (.int .i64 0),.val (.int .i64 0),.val (.str ⟨#[]⟩),.emp 1,.emp 5] [])) (.alt 5 (n
 (.store 5 (.t 2) (.t 35))) (.alt 6 (m 3 39) .done .stop) .stop) .stop) .stop)) .stop)) .stop)) .stop))) (.ret)) (.skip))) (.seq (.reg [o 40 (.load true 5 (.t 5)),n (.store 5 (.t
 2) (.t 40)),o 3 (.mov (i 0))]) (.ret)))))))
theorem ok103:N5 Tryz.prog 103 ir103 1 [.c 2 true 5,.t 3]=true:=by kernel_rfl
def ir182:PC:=.reg [m 4 1,o 5 (.ifc 191 (.t 4)),n (.pan (.t 5))]
theorem ok182:N5 Tryz.prog 182 ir182 2 []=true:=by kernel_rfl
def ir181:PC:=.block 0 (.loop (.ghost (.seq (.seq (.draw [m 2 0,o 3 (.nilck (.t 2)),o 4 (.faddr 1 (.t 3)),l 5 4,m 6 0,o 7 (.nilck (.t 6)),o 8 (.faddr 0 (.t 7)),l 9 8,o
 10 (.lens (.t 9)),o 11 (.bin .lss (.t 5) (.t 10)),m 12 11,g 13 12 true (.mov (.t 0)),g 14 12 true (.nilck (.t 13)),g 15 12 true (.faddr 0 (.t 14)),g 16 12 true (.load false 1
 (.t 15)),g 17 12 true (.mov (.t 0)),g 18 12 true (.nilck (.t 17)),g 19 12 true (.faddr 1 (.t 18)),g 20 12 true (.load false 1 (.t 19)),g 21 12 true (.idx (.t 16) (.t 20)),g
 22 12 true (.call 231 [.k (.val (.str ⟨#[32,9,10,13]⟩)),.t 21]),g 23 12 true (.bin .geq (.t 22) (i 0)),o 24 (.pick (.t 12) (.t 23) F)] []) (.cond (.t 24) (.skip) (.exit 0)))
 (.block 1 (.reg [m 25 0,o 26 (.nilck (.t 25)),o 27 (.faddr 1 (.t 26)),l 28 27,o 29 (.bin .add (.t 28) (i 1)),o 30 (.nilck (.t 25)),o 31 (.faddr 1 (.t 30)),n (.store 1 (.t
 31) (.t 29))])))))
theorem ok181:N5 Tryz.prog 181 ir181 1 []=true:=by kernel_rfl
def ir226:PC:=.seq (.reg [o 4 (.mov F)]) (.seq (.seq (.draw [m 5 0,o 6 (.nilck (.t 5)),o 7 (.faddr 0 (.t 6)),l 8 7,m 9 0,o 10 (.nilck (.t 9)),o 11 (.faddr 1 (.t 10)),l 12
 11,o 13 (.slc 0 (.t 8) (some (.t 12)) none),m 14 1,o 15 (.call 228 [.t 13,.t 14])] []) (.cond (.t 15) (.seq (.reg [m 16 0,o 17 (.nilck (.t 16)),o 18 (.faddr 1 (.t 17)),l 19
 18,m 20 1,o 21 (.lens (.t 20)),o 22 (.bin .add (.t 19) (.t 21)),o 23 (.nilck (.t 16)),o 24 (.faddr 1 (.t 23)),n (.store 1 (.t 24) (.t 22))]) (.seq (.reg [o 4 (.mov T)])
 (.ret))) (.skip))) (.seq (.reg [o 4 (.mov F)]) (.ret)))
theorem ok226:N5 Tryz.prog 226 ir226 2 [.t 4]=true:=by kernel_rfl
def ir256:PC:=.seq (.reg [m 4 0,m 5 1,o 6 (.call 226 [.t 4,.t 5]),o 7 (.un .not (.t 6))]) (.cond (.t 7) (.reg [m 8 0,o 9 (.call 182 [.t 8,.k (.val (.int .i64 3))])])
 (.skip))
theorem ok256:N5 Tryz.prog 256 ir256 2 []=true:=by kernel_rfl
def ir258:PC:=.seq (.reg [o 2 (.mov (.k (.val (.int .u8 0))))]) (.seq (.seq (.draw [m 3 0,o 4 (.nilck (.t 3)),o 5 (.faddr 1 (.t 4)),l 6 5,m 7 0,o 8 (.nilck (.t 7)),o 9
 (.faddr 0 (.t 8)),l 10 9,o 11 (.lens (.t 10)),o 12 (.bin .eql (.t 6) (.t 11))] []) (.cond (.t 12) (.reg [m 13 0,o 14 (.call 182 [.t 13,.k (.val (.int .i64 3))])]) (.skip)))
 (.seq (.reg [m 15 0,o 16 (.nilck (.t 15)),o 17 (.faddr 1 (.t 16)),l 18 17,o 19 (.bin .add (.t 18) (i 1)),o 20 (.nilck (.t 15)),o 21 (.faddr 1 (.t 20)),n (.store 1 (.t 21)
 (.t 19))]) (.seq (.draw [m 22 0,o 23 (.nilck (.t 22)),o 24 (.faddr 0 (.t 23)),l 25 24,m 26 0,o 27 (.nilck (.t 26)),o 28 (.faddr 1 (.t 27)),l 29 28,o 30 (.bin .sub (.t 29)
 (i 1)),o 31 (.idx (.t 25) (.t 30))] [m 2 31]) (.ret))))
theorem ok258:N5 Tryz.prog 258 ir258 1 [.t 2]=true:=by kernel_rfl
def ir259:PC:=.seq (.reg [o 2 (.mov (.k (.val (.int .u8 0))))]) (.seq (.reg [m 5 0,o 6 (.call 258 [.t 5]),m 3 6]) (.seq (.seq (.reg [m 7 3,o 8 (.conv .i64 (.t 7)),o 9 (.call
 106 [.t 8,.k (.val (.int .i64 65)),.k (.val (.int .i64 70))])]) (.cond (.t 9) (.reg [m 10 3,o 11 (.bin .add (.t 10) (.k (.val (.int .u8 32)))),m 3 11]) (.skip))) (.seq (.reg [m
 12 3,o 13 (.call 231 [.k (.val (.str ⟨#[48,49,50,51,52,53,54,55,56,57,97,98,99,100,101,102]⟩)),.t 12]),m 4 13]) (.seq (.seq (.reg [m 14 4,o 15 (.bin .lss (.t 14)
 (i 0))]) (.cond (.t 15) (.reg [m 16 0,o 17 (.call 182 [.t 16,.k (.val (.int .i64 3))])]) (.skip))) (.seq (.reg [m 18 4,o 19 (.conv .u8 (.t 18)),m 2 19]) (.ret))))))
theorem ok259:N5 Tryz.prog 259 ir259 1 [.t 2]=true:=by kernel_rfl
def ir229:PC:=.seq (.reg [o 2 (.mov (z #[]))]) (.seq (.reg [m 6 0,o 7 (.call 256 [.t 6,.k (.val (.str ⟨#[34]⟩))])]) (.seq (.reg [o 8 (.lit 5 1 []),m 3 8]) (.block 0 (.loop
 (.ghost (.block 1 (.seq (.reg [m 9 0,o 10 (.call 258 [.t 9]),m 4 10]) (.seq (.block 2 (.seq (.reg [m 12 4,o 13 (.bin .eql (.t 12) (.k (.val (.int .u8 34)))),m 11 13]) (.cond
 (.t 11) (.seq (.seq (.reg [m 14 3,o 15 (.len (.t 14)),o 16 (.bin .gtr (.t 15) (i 120))]) (.cond (.t 16) (.reg [m 17 0,o 18 (.call 182 [.t 17,.k (.val (.int .i64 8))])])
 (.skip))) (.seq (.reg [m 19 3,o 20 (.tostr (.t 19)),m 2 20]) (.ret))) (.seq (.reg [m 22 4,o 23 (.conv .i64 (.t 22)),o 24 (.call 106 [.t 23,.k (.val (.int .i64 32)),.k (.val
 (.int .i64 126))]),o 25 (.un .not (.t 24)),m 21 25]) (.cond (.t 21) (.reg [m 26 0,o 27 (.call 182 [.t 26,.k (.val (.int .i64 3))])]) (.seq (.reg [m 29 4,o 30 (.bin .eql (.t
 29) (.k (.val (.int .u8 92)))),m 28 30]) (.cond (.t 28) (.seq (.reg [m 31 0,o 32 (.call 258 [.t 31]),m 4 32]) (.seq (.reg [m 33 4,o 34 (.call 231 [.k (.val (.str ⟨#[98,102,
 110,114,116]⟩)),.t 33]),m 5 34]) (.seq (.reg [m 35 5,o 36 (.bin .geq (.t 35) (i 0))]) (.cond (.t 36) (.reg [m 37 5,o 38 (.idx (z #[8,12,10,13,9]) (.t 37)),m 4 38]) (.seq
 (.reg [m 39 4,o 40 (.bin .eql (.t 39) (.k (.val (.int .u8 117))))]) (.cond (.t 40) (.seq (.reg [m 41 0,o 42 (.call 256 [.t 41,.k (.val (.str ⟨#[48,48]⟩))])]) (.seq (.reg [m 43
 0,o 44 (.call 259 [.t 43]),o 45 (.bin .mul (.k (.val (.int .u8 16))) (.t 44)),m 4 45]) (.reg [m 46 4,m 47 0,o 48 (.call 259 [.t 47]),o 49 (.bin .add (.t 46) (.t 48)),m 4
 49]))) (.seq (.reg [m 50 4,o 51 (.bin .neq (.t 50) (.k (.val (.int .u8 34)))),m 52 51,g 53 52 true (.mov (.t 4)),g 54 52 true (.bin .neq (.t 53) (.k (.val (.int .u8 92)))),o
 55 (.pick (.t 52) (.t 54) F),m 56 55,g 57 56 true (.mov (.t 4)),g 58 56 true (.bin .neq (.t 57) (.k (.val (.int .u8 47)))),o 59 (.pick (.t 56) (.t 58) F)]) (.cond (.t 59) (.reg
 [m 60 0,o 61 (.call 182 [.t 60,.k (.val (.int .i64 3))])]) (.skip))))))))) (.skip)))))))) (.reg [m 62 3,m 63 4,o 64 (.lit 5 1 [.t 63]),o 65 (.app 5 1 1 (.t 62) (.t 64)),m 3
 65])))))))))
theorem ok229:N5 Tryz.prog 229 ir229 1 [.t 2]=true:=by kernel_rfl
def ir230:PC:=.seq (.reg [o 2 (.alloc [.val (.int .i64 0),.val (.int .i64 0),.val (.str ⟨#[]⟩),.emp 1,.emp 5])]) (.seq (.reg [m 6 0,o 7 (.nilck (.t 6)),o 8 (.faddr 1 (.t
 7)),l 9 8,m 3 9]) (.seq (.reg [m 10 0,o 11 (.call 226 [.t 10,.k (.val (.str ⟨#[45]⟩))])]) (.seq (.block 0 (.loop (.ghost (.seq (.seq (.draw [m 12 0,o 13 (.nilck (.t 12)),o 14
 (.faddr 1 (.t 13)),l 15 14,m 16 0,o 17 (.nilck (.t 16)),o 18 (.faddr 0 (.t 17)),l 19 18,o 20 (.lens (.t 19)),o 21 (.bin .lss (.t 15) (.t 20)),m 22 21,g 23 22 true (.mov
 (.t 0)),g 24 22 true (.nilck (.t 23)),g 25 22 true (.faddr 0 (.t 24)),g 26 22 true (.load false 1 (.t 25)),g 27 22 true (.mov (.t 0)),g 28 22 true (.nilck (.t 27)),g 29 22
 true (.faddr 1 (.t 28)),g 30 22 true (.load false 1 (.t 29)),g 31 22 true (.idx (.t 26) (.t 30)),g 32 22 true (.call 260 [.t 31]),o 33 (.pick (.t 22) (.t 32) F)] []) (.cond (.t
 33) (.skip) (.exit 0))) (.block 1 (.reg [m 34 0,o 35 (.nilck (.t 34)),o 36 (.faddr 1 (.t 35)),l 37 36,o 38 (.bin .add (.t 37) (i 1)),o 39 (.nilck (.t 34)),o 40 (.faddr 1 (.t
 39)),n (.store 1 (.t 40) (.t 38))])))))) (.seq (.draw [m 42 0,o 43 (.nilck (.t 42)),o 44 (.faddr 0 (.t 43)),l 45 44,m 46 3,m 47 0,o 48 (.nilck (.t 47)),o 49 (.faddr 1 (.t
 48)),l 50 49,o 51 (.slc 0 (.t 45) (some (.t 46)) (some (.t 50))),o 52 (.call 249 [.t 51]),m 41 52,o 53 (.ext 0 (.t 41)),o 54 (.ext 1 (.t 41)),m 4 53] [m 5 54]) (.seq (.seq
 (.reg [m 55 5,o 56 (.un .not (.t 55))]) (.cond (.t 56) (.reg [m 57 0,o 58 (.call 182 [.t 57,.k (.val (.int .i64 3))])]) (.skip))) (.seq (.seq (.reg [m 59 4,o 60 (.call 106 [.t
 59,.k (.val (.int .i64 (-999999999))),.k (.val (.int .i64 999999999))]),o 61 (.un .not (.t 60))]) (.cond (.t 61) (.reg [m 62 0,o 63 (.call 182 [.t 62,.k (.val (.int .i64
 4))])]) (.skip))) (.seq (.reg [m 64 4,o 65 (.build [.val (.int .i64 0),.val (.int .i64 0),.val (.str ⟨#[]⟩),.emp 1,.emp 5] [(0,1,.k (.val (.int .i64 3))),(1,1,.t 64)]),n
 (.store 5 (.t 2) (.t 65))]) (.ret))))))))
theorem ok230:N5 Tryz.prog 230 ir230 1 [.c 2 true 5]=true:=by kernel_rfl
def ir227_s25:PC:=.seq (.reg [m 25 0,o 26 (.call 229 [.t 25]),m 9 26]) (.seq (.seq (.reg [o 27 (.faddr 3 (.t 5)),l 28 27,m 29 9,o 30 (.call 140 [.t 28,.t 29])]) (.cond (.t
 30) (.reg [m 31 0,o 32 (.call 182 [.t 31,.k (.val (.int .i64 13))])]) (.skip))) (.seq (.reg [o 33 (.faddr 3 (.t 5)),l 34 33,m 35 9,o 36 (.lit 9 1 [.t 35]),o 37 (.app 9 1 16
 (.t 34) (.t 36)),o 38 (.faddr 3 (.t 5)),n (.store 1 (.t 38) (.t 37))]) (.seq (.reg [m 39 0,o 40 (.call 181 [.t 39])]) (.reg [m 41 0,o 42 (.call 256 [.t 41,.k (.val (.str
 ⟨#[58]⟩))])]))))
def ir227_s52:PC:=.seq (.seq (.reg [o 52 (.faddr 4 (.t 5)),l 53 52,o 54 (.len (.t 53)),o 55 (.bin .gtr (.t 54) (i 12))]) (.cond (.t 55) (.reg [m 56 0,o 57 (.call 182 [.t 56,
 .k (.val (.int .i64 6))])]) (.skip))) (.seq (.reg [m 58 0,o 59 (.call 181 [.t 58])]) (.seq (.seq (.reg [m 60 0,m 61 3,o 62 (.call 226 [.t 60,.t 61])]) (.cond (.t 62) (.seq
 (.reg [o 63 (.load true 5 (.t 5)),n (.store 5 (.t 8) (.t 63))]) (.ret)) (.skip))) (.reg [m 64 0,o 65 (.call 256 [.t 64,.k (.val (.str ⟨#[44]⟩))])])))
def ir227_s43:PC:=.seq (.mix (.early 0 (o 43 (.faddr 4 (.t 5))) (.early 1 (l 44 43) (.early 2 (m 45 0) (.early 3 (m 46 2) (.early 4 (o 47 (.bin .add (.t 46) (i 1))) (.step 5 (o
 48 (.call 180 [.t 45,.t 47])) [0,1] (.early 6 (o 49 (.lit 81 5 [.t 48])) (.step 7 (o 50 (.app 81 5 80 (.t 44) (.t 49))) [] (.early 8 (o 51 (.faddr 4 (.t 5))) (.step 9 (n (.store
 1 (.t 51) (.t 50))) [] .done))))))))))) (ir227_s52)
def ir227:PC:=.seq (.reg [o 5 (.box (.t 1)),o 8 (.alloc [.val (.int .i64 0),.val (.int .i64 0),.val (.str ⟨#[]⟩),.emp 1,.emp 5])]) (.seq (.seq (.reg [m 10 2,o 11 (.bin
 .eql (.t 10) (i 4))]) (.cond (.t 11) (.reg [m 12 0,o 13 (.call 182 [.t 12,.k (.val (.int .i64 12))])]) (.skip))) (.seq (.reg [m 14 0,o 15 (.call 181 [.t 14])]) (.seq (.seq (.reg
 [m 16 0,m 17 3,o 18 (.call 226 [.t 16,.t 17])]) (.cond (.t 18) (.seq (.reg [o 19 (.load true 5 (.t 5)),n (.store 5 (.t 8) (.t 19))]) (.ret)) (.skip))) (.block 0 (.loop (.ghost
 (.block 1 (.seq (.reg [m 20 0,o 21 (.call 181 [.t 20])]) (.seq (.seq (.reg [o 22 (.faddr 0 (.t 5)),l 23 22,o 24 (.bin .eql (.t 23) (i 6))]) (.cond (.t 24) (ir227_s25) (.skip)))
 (ir227_s43))))))))))
theorem ok227:N5 Tryz.prog 227 ir227 4 [.c 8 true 5]=true:=by kernel_rfl
def ir180:PC:=.seq (.reg [o 4 (.alloc [.val (.int .i64 0),.val (.int .i64 0),.val (.str ⟨#[]⟩),.emp 1,.emp 5])]) (.seq (.reg [m 5 0,o 6 (.call 181 [.t 5])]) (.seq (.block 0
 (.seq (.reg [m 8 0,o 9 (.call 226 [.t 8,.k (.val (.str ⟨#[110,117,108,108]⟩))]),m 7 9]) (.cond (.t 7) (.seq (.reg [o 10 (.build [.val (.int .i64 0),.val (.int .i64 0),.val
 (.str ⟨#[]⟩),.emp 1,.emp 5] [(0,1,.k (.val (.int .i64 1)))]),n (.store 5 (.t 4) (.t 10))]) (.ret)) (.seq (.reg [m 12 0,o 13 (.call 226 [.t 12,.k (.val (.str ⟨#[116,114,
 117,101]⟩))]),m 11 13]) (.cond (.t 11) (.seq (.reg [o 14 (.build [.val (.int .i64 0),.val (.int .i64 0),.val (.str ⟨#[]⟩),.emp 1,.emp 5] [(0,1,.k (.val (.int .i64 2))),(1,
 1,.k (.val (.int .i64 1)))]),n (.store 5 (.t 4) (.t 14))]) (.ret)) (.seq (.reg [m 16 0,o 17 (.call 226 [.t 16,.k (.val (.str ⟨#[102,97,108,115,101]⟩))]),m 15 17]) (.cond
 (.t 15) (.seq (.reg [o 18 (.build [.val (.int .i64 0),.val (.int .i64 0),.val (.str ⟨#[]⟩),.emp 1,.emp 5] [(0,1,.k (.val (.int .i64 2)))]),n (.store 5 (.t 4) (.t 18))])
 (.ret)) (.seq (.reg [m 20 0,o 21 (.call 226 [.t 20,.k (.val (.str ⟨#[91]⟩))]),m 19 21]) (.cond (.t 19) (.seq (.reg [m 22 0,o 23 (.build [.val (.int .i64 0),.val (.int .i64 0),
 .val (.str ⟨#[]⟩),.emp 1,.emp 5] [(0,1,.k (.val (.int .i64 5)))]),m 24 1,o 25 (.call 227 [.t 22,.t 23,.t 24,.k (.val (.str ⟨#[93]⟩))]),n (.store 5 (.t 4) (.t 25))])
 (.ret)) (.seq (.reg [m 27 0,o 28 (.call 226 [.t 27,.k (.val (.str ⟨#[123]⟩))]),m 26 28]) (.cond (.t 26) (.seq (.reg [m 29 0,o 30 (.build [.val (.int .i64 0),.val (.int .i64
 0),.val (.str ⟨#[]⟩),.emp 1,.emp 5] [(0,1,.k (.val (.int .i64 6)))]),m 31 1,o 32 (.call 227 [.t 29,.t 30,.t 31,.k (.val (.str ⟨#[125]⟩))]),n (.store 5 (.t 4) (.t 32))])
 (.ret)) (.seq (.draw [m 34 0,o 35 (.nilck (.t 34)),o 36 (.faddr 0 (.t 35)),l 37 36,m 38 0,o 39 (.nilck (.t 38)),o 40 (.faddr 1 (.t 39)),l 41 40,o 42 (.slc 0 (.t 37) (some
 (.t 41)) none),o 43 (.call 228 [.t 42,.k (.val (.str ⟨#[34]⟩))]),m 33 43] []) (.cond (.t 33) (.seq (.reg [m 44 0,o 45 (.call 229 [.t 44]),o 46 (.build [.val (.int .i64 0),
 .val (.int .i64 0),.val (.str ⟨#[]⟩),.emp 1,.emp 5] [(0,1,.k (.val (.int .i64 4))),(2,1,.t 45)]),n (.store 5 (.t 4) (.t 46))]) (.ret)) (.skip)))))))))))))) (.seq (.reg [m
 47 0,o 48 (.call 230 [.t 47]),n (.store 5 (.t 4) (.t 48))]) (.ret))))
theorem ok180:N5 Tryz.prog 180 ir180 2 [.c 4 true 5]=true:=by kernel_rfl
end Go.Proofs
end
section
namespace Go.Proofs
open Go.PW Go.PW.I
def ir118_r0:PC:=.reg [o 2 (.alloc [.val (.int .i64 0),.val (.int .i64 0),.val (.str ⟨#[]⟩),.emp 1,.emp 5]),o 3 (.alloc [.val (.int .i64 0)])]
def ir118:PC:=.seq (.reg [m 6 0,o 7 (.build [.val (.str ⟨#[]⟩),.val (.int .i64 0)] [(0,1,.t 6)]),o 8 (.box (.t 7)),m 4 8]) (.seq (.reg [m 9 4,o 10 (.call 180 [.t 9,.k
 (.val (.int .i64 0))]),n (.store 5 (.t 2) (.t 10))]) (.seq (.reg [m 11 4,o 12 (.call 181 [.t 11])]) (.seq (.seq (.reg [m 13 4,o 14 (.nilck (.t 13)),o 15 (.faddr 1 (.t 14)),l
 16 15,m 17 0,o 18 (.lens (.t 17)),o 19 (.bin .lss (.t 16) (.t 18))]) (.cond (.t 19) (.reg [m 20 4,o 21 (.call 182 [.t 20,.k (.val (.int .i64 3))])]) (.skip))) (.seq (.reg [o
 22 (.load true 5 (.t 2)),n (.store 5 (.t 2) (.t 22)),n (.store 1 (.t 3) (i 0))]) (.ret)))))
theorem ok118:c5a Tryz.prog 118 ir118_r0 ir118 1 [.c 2 true 5,.c 3 false 1]=true:=by kernel_rfl
def ir58:PC:=.seq (.reg [o 2 (.alloc [.val (.int .i64 0),.val (.int .i64 0),.val (.str ⟨#[]⟩),.emp 1,.emp 5]),o 3 (.mov (i 0))]) (.seq (.seq (.reg [m 5 0,o 6 (.call 84 [.t
 5]),m 4 6]) (.seq (.reg [m 7 4,o 8 (.bin .neq (.t 7) (i 0))]) (.cond (.t 8) (.seq (.reg [o 9 (.build [.val (.int .i64 0),.val (.int .i64 0),.val (.str ⟨#[]⟩),.emp 1,.emp 5]
 []),m 10 4,n (.store 5 (.t 2) (.t 9)),m 3 10]) (.ret)) (.skip)))) (.seq (.reg [m 11 0,o 12 (.call 118 [.t 11]),o 13 (.ext 0 (.t 12)),o 14 (.ext 1 (.t 12)),n (.store 5 (.t 2)
 (.t 13)),m 3 14]) (.ret)))
theorem ok58:N5 Tryz.prog 58 ir58 1 [.c 2 true 5,.t 3]=true:=by kernel_rfl
end Go.Proofs
end
section
namespace Go.Proofs
open Go.PW Go.PW.I
def ir160:PC:=.seq (.reg [o 2 (.box (.t 0)),o 4 (.alloc [.val (.int .i64 0),.val (.int .i64 0),.val (.str ⟨#[]⟩),.emp 1,.emp 5]),o 5 (.mov F)]) (.seq (.seq (.reg [o 6
 (.mov (i 0))]) (.block 0 (.loop (.ghost (.seq (.seq (.reg [m 7 6,o 8 (.faddr 3 (.t 2)),l 9 8,o 10 (.len (.t 9)),o 11 (.bin .lss (.t 7) (.t 10)),m 12 11,g 13 12 true (.mov (.t
 6)),g 14 12 true (.faddr 4 (.t 2)),g 15 12 true (.load false 1 (.t 14)),g 16 12 true (.len (.t 15)),g 17 12 true (.bin .lss (.t 13) (.t 16)),o 18 (.pick (.t 12) (.t 17) F)])
 (.cond (.t 18) (.skip) (.exit 0))) (.seq (.block 1 (.seq (.reg [o 21 (.faddr 3 (.t 2)),l 22 21,m 23 6,o 24 (.iaddr 1 (.t 22) (.t 23)),l 25 24,m 26 1,o 27 (.bin .eql (.t 25)
 (.t 26))]) (.cond (.t 27) (.seq (.reg [o 28 (.faddr 4 (.t 2)),l 29 28,m 30 6,o 31 (.iaddr 5 (.t 29) (.t 30)),o 32 (.load true 5 (.t 31)),n (.store 5 (.t 4) (.t 32)),o 5 (.mov
 T)]) (.ret)) (.skip)))) (.reg [m 19 6,o 20 (.bin .add (.t 19) (i 1)),m 6 20]))))))) (.seq (.reg [o 33 (.build [.val (.int .i64 0),.val (.int .i64 0),.val (.str ⟨#[]⟩),.emp 1,
 .emp 5] []),n (.store 5 (.t 4) (.t 33)),o 5 (.mov F)]) (.ret)))
theorem ok160:N5 Tryz.prog 160 ir160 2 [.c 4 true 5,.t 5]=true:=by kernel_rfl
def ir59:PC:=.seq (.reg [o 2 (.box (.t 0)),o 4 (.alloc [.val (.int .i64 0),.val (.int .i64 0),.val (.str ⟨#[]⟩),.emp 1,.emp 5]),o 5 (.mov F)]) (.seq (.reg [o 7 (.faddr 3
 (.t 2)),l 8 7,m 9 1,o 10 (.call 119 [.t 8,.t 9]),m 6 10]) (.seq (.seq (.reg [m 11 6,o 12 (.bin .lss (.t 11) (i 0))]) (.cond (.t 12) (.seq (.reg [o 13 (.build [.val (.int .i64
 0),.val (.int .i64 0),.val (.str ⟨#[]⟩),.emp 1,.emp 5] []),n (.store 5 (.t 4) (.t 13)),o 5 (.mov F)]) (.ret)) (.skip))) (.seq (.reg [o 14 (.faddr 4 (.t 2)),l 15 14,m 16 6,
 o 17 (.iaddr 5 (.t 15) (.t 16)),o 18 (.load true 5 (.t 17)),n (.store 5 (.t 4) (.t 18)),o 5 (.mov T)]) (.ret))))
theorem ok59:N5 Tryz.prog 59 ir59 2 [.c 4 true 5,.t 5]=true:=by kernel_rfl
end Go.Proofs
end
section
namespace Go.Proofs
open Go.PW Go.PW.I
end Go.Proofs
end
section
namespace Go.Proofs
open Go.PW Go.PW.I
def ir162:PC:=.seq (.reg [o 5 (.box (.t 0)),o 10 (.mov (i 0)),o 11 (.mov F)]) (.seq (.reg [o 15 (.load true 5 (.t 5)),m 16 1,o 17 (.call 160 [.t 15,.t 16]),m 14 17,o 18
 (.ext 0 (.t 14)),o 19 (.ext 1 (.t 14)),o 12 (.alloc [.val (.int .i64 0),.val (.int .i64 0),.val (.str ⟨#[]⟩),.emp 1,.emp 5]),n (.store 5 (.t 12) (.t 18)),m 13 19]) (.seq
 (.seq (.reg [m 20 13,o 21 (.un .not (.t 20))]) (.cond (.t 21) (.seq (.reg [m 22 4,m 10 22,o 11 (.mov T)]) (.ret)) (.skip))) (.seq (.draw [o 23 (.faddr 1 (.t 12)),l 24 23,o 25
 (.faddr 0 (.t 12)),l 26 25,o 27 (.bin .eql (.t 26) (i 3)),m 28 27,g 29 28 true (.faddr 1 (.t 12)),g 30 28 true (.load false 1 (.t 29)),g 31 28 true (.mov (.t 2)),g 32 28
 true (.mov (.t 3)),g 33 28 true (.call 129 [.t 30,.t 31,.t 32]),o 34 (.pick (.t 28) (.t 33) F),m 10 24] [m 11 34]) (.ret))))
theorem ok162:N5 Tryz.prog 162 ir162 5 [.t 10,.t 11]=true:=by kernel_rfl
def ir104_from9:PC:=.seq (.seq (.reg [o 11 (.mov (i 0))]) (.block 0 (.loop (.ghost (.seq (.seq (.reg [m 69 11,o 70 (.faddr 4 (.t 9)),l 71 70,o 72 (.len (.t 71)),o 73 (.bin
 .lss (.t 69) (.t 72))]) (.cond (.t 73) (.skip) (.exit 0))) (.seq (.block 1 (.seq (.reg [o 76 (.faddr 4 (.t 9)),l 77 76,m 78 11,o 79 (.iaddr 5 (.t 77) (.t 78)),o 80 (.load true
 5 (.t 79)),o 12 (.alloc [.val (.int .i64 0),.val (.int .i64 0),.val (.str ⟨#[]⟩),.emp 1,.emp 5]),n (.store 5 (.t 12) (.t 80))]) (.seq (.reg [o 82 (.load true 5 (.t 12)),o 83
 (.call 160 [.t 82,.k (.val (.str ⟨#[117,114,108]⟩))]),m 81 83,o 84 (.ext 0 (.t 81)),o 85 (.ext 1 (.t 81)),o 13 (.alloc [.val (.int .i64 0),.val (.int .i64 0),.val (.str
 ⟨#[]⟩),.emp 1,.emp 5]),n (.store 5 (.t 13) (.t 84)),m 14 85]) (.seq (.reg [o 87 (.load true 5 (.t 12)),o 88 (.call 162 [.t 87,.k (.val (.str ⟨#[112,114,105,111,114,105,
 116,121]⟩)),.k (.val (.int .i64 1)),.k (.val (.int .i64 9)),.k (.val (.int .i64 1))]),m 86 88,o 89 (.ext 0 (.t 86)),o 90 (.ext 1 (.t 86)),m 15 89,m 16 90]) (.seq (.reg [o
 92 (.load true 5 (.t 12)),o 93 (.call 162 [.t 92,.k (.val (.str ⟨#[119,101,105,103,104,116]⟩)),.k (.val (.int .i64 1)),.k (.val (.int .i64 9)),.k (.val (.int .i64 1))]),
 m 91 93,o 94 (.ext 0 (.t 91)),o 95 (.ext 1 (.t 91)),m 17 94,m 18 95]) (.seq (.reg [o 97 (.faddr 2 (.t 13)),l 98 97,o 99 (.call 144 [.t 98]),m 96 99,o 100 (.ext 0 (.t 96)),
 o 101 (.ext 1 (.t 96)),m 19 100,m 20 101]) (.seq (.reg [o 102 (.faddr 0 (.t 12)),l 103 102,o 104 (.bin .eql (.t 103) (i 6)),m 105 104,g 106 105 true (.faddr 0 (.t 13)),g 107
 105 true (.load false 1 (.t 106)),g 108 105 true (.bin .eql (.t 107) (i 4)),o 109 (.pick (.t 105) (.t 108) F),m 110 109,g 111 110 true (.mov (.t 20)),o 112 (.pick (.t 110) (.t
 111) F),m 113 112,g 114 113 true (.mov (.t 16)),o 115 (.pick (.t 113) (.t 114) F),m 116 115,g 117 116 true (.mov (.t 18)),o 118 (.pick (.t 116) (.t 117) F),m 119 118,g 120
 119 true (.faddr 2 (.t 4)),g 121 119 true (.load false 1 (.t 120)),g 122 119 true (.mov (.t 19)),g 123 119 true (.call 163 [.t 121,.t 122]),g 124 119 true (.bin .lss (.t 123)
 (i 0)),o 125 (.pick (.t 119) (.t 124) F)]) (.cond (.t 125) (.reg [o 126 (.faddr 2 (.t 4)),l 127 126,m 128 19,m 129 15,m 130 17,o 131 (.build [.val (.str ⟨#[]⟩),.val (.int
 .i64 0),.val (.int .i64 0)] [(0,1,.t 128),(1,1,.t 129),(2,1,.t 130)]),o 132 (.lit 129 3 [.t 131]),o 133 (.app 129 3 32 (.t 127) (.t 132)),o 134 (.faddr 2 (.t 4)),n
 (.store 1 (.t 134) (.t 133))]) (.skip))))))))) (.reg [m 74 11,o 75 (.bin .add (.t 74) (i 1)),m 11 75]))))))) (.seq (.seq (.reg [o 135 (.faddr 2 (.t 4)),l 136 135,o 137 (.len
 (.t 136)),o 138 (.bin .eql (.t 137) (i 0))]) (.cond (.t 138) (.seq (.reg [o 139 (.load true 3 (.t 4)),n (.store 3 (.t 2) (.t 139)),o 3 (.mov (i 5))]) (.ret)) (.skip))) (.seq
 (.seq (.reg [o 140 (.faddr 2 (.t 4)),l 141 140,o 142 (.len (.t 141)),o 143 (.bin .gtr (.t 142) (i 4))]) (.cond (.t 143) (.seq (.reg [o 144 (.load true 3 (.t 4)),n (.store 3 (.t
 2) (.t 144)),o 3 (.mov (i 6))]) (.ret)) (.skip))) (.seq (.reg [o 145 (.load true 3 (.t 4)),n (.store 3 (.t 2) (.t 145)),o 3 (.mov (i 0))]) (.ret))))
def ir104_from4:PC:=.seq (.reg [o 47 (.load true 5 (.t 1)),o 48 (.call 162 [.t 47,.k (.val (.str ⟨#[109,97,120,95,97,103,101]⟩)),.k (.val (.int .i64 1)),.k (.val (.int
 .i64 100)),.k (.val (.int .i64 0))]),m 46 48,o 49 (.ext 0 (.t 46)),o 50 (.ext 1 (.t 46)),m 7 49,m 8 50]) (.seq (.seq (.reg [m 51 8,o 52 (.un .not (.t 51)),m 53 52,g 54 53
 false (.mov (.t 7)),g 55 53 false (.bin .eql (.t 54) (i 0)),o 56 (.pick (.t 53) T (.t 55))]) (.cond (.t 56) (.seq (.reg [o 57 (.load true 3 (.t 4)),n (.store 3 (.t 2) (.t 57)),
 o 3 (.mov (i 4))]) (.ret)) (.skip))) (.seq (.reg [m 58 7,o 59 (.faddr 1 (.t 4)),n (.store 1 (.t 59) (.t 58))]) (.seq (.reg [o 61 (.load true 5 (.t 1)),o 62 (.call 160 [.t 61,.k
 (.val (.str ⟨#[101,110,100,112,111,105,110,116,115]⟩))]),m 60 62,o 63 (.ext 0 (.t 60)),o 64 (.ext 1 (.t 60)),o 9 (.alloc [.val (.int .i64 0),.val (.int .i64 0),.val
 (.str ⟨#[]⟩),.emp 1,.emp 5]),n (.store 5 (.t 9) (.t 63)),m 10 64]) (.seq (.seq (.reg [o 65 (.faddr 0 (.t 9)),l 66 65,o 67 (.bin .neq (.t 66) (i 5))]) (.cond (.t 67) (.seq
 (.reg [o 68 (.load true 3 (.t 4)),n (.store 3 (.t 2) (.t 68)),o 3 (.mov (i 9))]) (.ret)) (.skip))) (ir104_from9)))))
def ir104:PC:=.seq (.reg [o 1 (.box (.t 0)),o 2 (.alloc [.val (.str ⟨#[]⟩),.val (.int .i64 0),.emp 3]),o 3 (.mov (i 0))]) (.seq (.reg [o 21 (.lit 129 3 []),o 22 (.build
 [.val (.str ⟨#[]⟩),.val (.int .i64 0),.emp 3] [(0,1,.k (.val (.str ⟨#[100,101,102,97,117,108,116]⟩))),(2,1,.t 21)]),o 4 (.alloc [.val (.str ⟨#[]⟩),.val (.int .i64
 0),.emp 3]),n (.store 3 (.t 4) (.t 22))]) (.seq (.seq (.reg [o 23 (.faddr 0 (.t 1)),l 24 23,o 25 (.bin .neq (.t 24) (i 6))]) (.cond (.t 25) (.seq (.reg [o 26 (.load true 3 (.t
 4)),n (.store 3 (.t 2) (.t 26)),o 3 (.mov (i 9))]) (.ret)) (.skip))) (.seq (.seq (.reg [o 28 (.load true 5 (.t 1)),o 29 (.call 160 [.t 28,.k (.val (.str ⟨#[103,114,111,117,
 112]⟩))]),m 27 29,o 30 (.ext 0 (.t 27)),o 31 (.ext 1 (.t 27)),o 5 (.alloc [.val (.int .i64 0),.val (.int .i64 0),.val (.str ⟨#[]⟩),.emp 1,.emp 5]),n (.store 5 (.t 5) (.t
 30)),m 6 31]) (.seq (.reg [m 32 6]) (.cond (.t 32) (.seq (.seq (.reg [o 33 (.faddr 0 (.t 5)),l 34 33,o 35 (.bin .neq (.t 34) (i 4)),m 36 35,g 37 36 false (.faddr 2 (.t 5)),g
 38 36 false (.load false 1 (.t 37)),g 39 36 false (.call 161 [.t 38]),g 40 36 false (.un .not (.t 39)),o 41 (.pick (.t 36) T (.t 40))]) (.cond (.t 41) (.seq (.reg [o 42 (.load
 true 3 (.t 4)),n (.store 3 (.t 2) (.t 42)),o 3 (.mov (i 10))]) (.ret)) (.skip))) (.reg [o 43 (.faddr 2 (.t 5)),l 44 43,o 45 (.faddr 0 (.t 4)),n (.store 1 (.t 45) (.t 44))]))
 (.skip)))) (ir104_from4))))
theorem ok104:N5 Tryz.prog 104 ir104 1 [.c 2 true 3,.t 3]=true:=by kernel_rfl
def ir45:PC:=.seq (.reg [o 2 (.alloc [.val (.str ⟨#[]⟩),.val (.int .i64 0),.emp 3]),o 3 (.mov (i 0))]) (.seq (.seq (.reg [m 7 0,o 8 (.lens (.t 7)),o 9 (.bin .gtr (.t 8) (i
 65536))]) (.cond (.t 9) (.seq (.reg [o 10 (.build [.val (.str ⟨#[]⟩),.val (.int .i64 0),.emp 3] []),n (.store 3 (.t 2) (.t 10)),o 3 (.mov (i 2))]) (.ret)) (.skip))) (.seq (.reg
 [m 12 0,o 13 (.call 103 [.t 12]),m 11 13,o 14 (.ext 0 (.t 11)),o 15 (.ext 1 (.t 11)),o 4 (.alloc [.val (.int .i64 0),.val (.int .i64 0),.val (.str ⟨#[]⟩),.emp 1,.emp 5]),
 n (.store 5 (.t 4) (.t 14)),m 5 15]) (.seq (.seq (.reg [m 16 5,o 17 (.bin .neq (.t 16) (i 0))]) (.cond (.t 17) (.seq (.reg [o 18 (.build [.val (.str ⟨#[]⟩),.val (.int .i64 0),
 .emp 3] []),m 19 5,n (.store 3 (.t 2) (.t 18)),m 3 19]) (.ret)) (.skip))) (.seq (.reg [o 21 (.load true 5 (.t 4)),o 22 (.call 104 [.t 21]),m 20 22,o 23 (.ext 0 (.t 20)),o 24
 (.ext 1 (.t 20)),o 6 (.alloc [.val (.str ⟨#[]⟩),.val (.int .i64 0),.emp 3]),n (.store 3 (.t 6) (.t 23)),m 5 24]) (.seq (.seq (.reg [m 25 5,o 26 (.bin .neq (.t 25) (i 0))])
 (.cond (.t 26) (.seq (.reg [o 27 (.build [.val (.str ⟨#[]⟩),.val (.int .i64 0),.emp 3] []),m 28 5,n (.store 3 (.t 2) (.t 27)),m 3 28]) (.ret)) (.skip))) (.seq (.reg [o 29
 (.load true 3 (.t 6)),n (.store 3 (.t 2) (.t 29)),o 3 (.mov (i 0))]) (.ret)))))))
theorem ok45:N5 Tryz.prog 45 ir45 1 [.c 2 true 3,.t 3]=true:=by kernel_rfl
def ir107:PC:=.seq (.reg [o 2 (.box (.t 0)),o 4 (.mov (i 0)),o 5 (.mov F)]) (.seq (.reg [o 9 (.load true 5 (.t 2)),m 10 1,o 11 (.call 59 [.t 9,.t 10]),m 8 11,o 12 (.ext 0
 (.t 8)),o 13 (.ext 1 (.t 8)),o 6 (.alloc [.val (.int .i64 0),.val (.int .i64 0),.val (.str ⟨#[]⟩),.emp 1,.emp 5]),n (.store 5 (.t 6) (.t 12)),m 7 13]) (.seq (.seq (.reg [m
 14 7,o 15 (.un .not (.t 14))]) (.cond (.t 15) (.seq (.reg [o 4 (.mov (i 1)),o 5 (.mov T)]) (.ret)) (.skip))) (.seq (.draw [o 16 (.faddr 1 (.t 6)),l 17 16,o 18 (.faddr 0 (.t
 6)),l 19 18,o 20 (.bin .eql (.t 19) (i 3)),m 21 20,g 22 21 true (.faddr 1 (.t 6)),g 23 21 true (.load false 1 (.t 22)),g 24 21 true (.call 106 [.t 23,.k (.val (.int .i64
 1)),.k (.val (.int .i64 9))]),o 25 (.pick (.t 21) (.t 24) F),m 4 17] [m 5 25]) (.ret))))
theorem ok107:N5 Tryz.prog 107 ir107 2 [.t 4,.t 5]=true:=by kernel_rfl
def ir46_from10:PC:=.seq (.seq (.reg [o 83 (.faddr 4 (.t 11)),l 84 83,o 85 (.len (.t 84)),o 86 (.mov (i 0))]) (.block 0 (.loop (.ghost (.seq (.reg [o 87 (.bin .lss (.t 86)
 (.t 85))]) (.seq (.cond (.t 87) (.skip) (.exit 0)) (.seq (.block 1 (.seq (.reg [o 88 (.iaddr 5 (.t 84) (.t 86)),o 89 (.load true 5 (.t 88)),o 14 (.alloc [.val (.int .i64 0),.val
 (.int .i64 0),.val (.str ⟨#[]⟩),.emp 1,.emp 5]),n (.store 5 (.t 14) (.t 89))]) (.seq (.reg [o 91 (.load true 5 (.t 14)),o 92 (.call 59 [.t 91,.k (.val (.str ⟨#[117,114,
 108]⟩))]),m 90 92,o 93 (.ext 0 (.t 90)),o 94 (.ext 1 (.t 90)),o 15 (.alloc [.val (.int .i64 0),.val (.int .i64 0),.val (.str ⟨#[]⟩),.emp 1,.emp 5]),n (.store 5 (.t 15) (.t
 93)),m 16 94]) (.seq (.reg [o 96 (.faddr 2 (.t 15)),l 97 96,o 98 (.call 99 [.t 97]),m 95 98,o 99 (.ext 0 (.t 95)),o 100 (.ext 1 (.t 95)),m 17 99,m 18 100]) (.seq (.reg [o
 102 (.load true 5 (.t 14)),o 103 (.call 107 [.t 102,.k (.val (.str ⟨#[112,114,105,111,114,105,116,121]⟩))]),m 101 103,o 104 (.ext 0 (.t 101)),o 105 (.ext 1 (.t 101)),m
 19 104,m 20 105]) (.seq (.reg [o 107 (.load true 5 (.t 14)),o 108 (.call 107 [.t 107,.k (.val (.str ⟨#[119,101,105,103,104,116]⟩))]),m 106 108,o 109 (.ext 0 (.t 106)),o
 110 (.ext 1 (.t 106)),m 21 109,m 22 110]) (.seq (.reg [o 111 (.faddr 0 (.t 14)),l 112 111,o 113 (.bin .eql (.t 112) (i 6)),m 114 113,g 115 114 true (.faddr 0 (.t 15)),g 116
 114 true (.load false 1 (.t 115)),g 117 114 true (.bin .eql (.t 116) (i 4)),o 118 (.pick (.t 114) (.t 117) F),m 119 118,g 120 119 true (.mov (.t 18)),o 121 (.pick (.t 119) (.t
 120) F),m 122 121,g 123 122 true (.mov (.t 20)),o 124 (.pick (.t 122) (.t 123) F),m 125 124,g 126 125 true (.mov (.t 22)),o 127 (.pick (.t 125) (.t 126) F),m 128 127,g 129
 128 true (.faddr 2 (.t 6)),g 130 128 true (.load false 1 (.t 129)),g 131 128 true (.mov (.t 17)),g 132 128 true (.call 108 [.t 130,.t 131]),g 133 128 true (.un .not (.t 132)),
 o 134 (.pick (.t 128) (.t 133) F)]) (.cond (.t 134) (.reg [o 135 (.faddr 2 (.t 6)),l 136 135,m 137 17,m 138 19,m 139 21,o 140 (.build [.val (.str ⟨#[]⟩),.val (.int .i64 0),
 .val (.int .i64 0)] [(0,1,.t 137),(1,1,.t 138),(2,1,.t 139)]),o 141 (.lit 129 3 [.t 140]),o 142 (.app 129 3 32 (.t 136) (.t 141)),o 143 (.faddr 2 (.t 6)),n (.store 1
 (.t 143) (.t 142))]) (.skip))))))))) (.reg [o 144 (.bin .add (.t 86) (i 1)),m 86 144])))))))) (.seq (.block 2 (.seq (.reg [o 146 (.faddr 2 (.t 6)),l 147 146,o 148 (.len (.t
 147)),o 149 (.bin .eql (.t 148) (i 0)),m 145 149]) (.cond (.t 145) (.seq (.reg [o 150 (.build [.val (.str ⟨#[]⟩),.val (.int .i64 0),.emp 3] []),n (.store 3 (.t 2) (.t 150)),o
 3 (.mov (i 5))]) (.ret)) (.seq (.reg [o 152 (.faddr 2 (.t 6)),l 153 152,o 154 (.len (.t 153)),o 155 (.bin .gtr (.t 154) (i 4)),m 151 155]) (.cond (.t 151) (.seq (.reg [o 156
 (.build [.val (.str ⟨#[]⟩),.val (.int .i64 0),.emp 3] []),n (.store 3 (.t 2) (.t 156)),o 3 (.mov (i 6))]) (.ret)) (.skip)))))) (.seq (.reg [o 157 (.load true 3 (.t 6)),n
 (.store 3 (.t 2) (.t 157)),o 3 (.mov (i 0))]) (.ret)))
def ir46_from6:PC:=.seq (.reg [o 57 (.load true 5 (.t 4)),o 58 (.call 59 [.t 57,.k (.val (.str ⟨#[109,97,120,95,97,103,101]⟩))]),m 56 58,o 59 (.ext 0 (.t 56)),o 60
 (.ext 1 (.t 56)),o 9 (.alloc [.val (.int .i64 0),.val (.int .i64 0),.val (.str ⟨#[]⟩),.emp 1,.emp 5]),n (.store 5 (.t 9) (.t 59)),m 10 60]) (.seq (.seq (.reg [o 61 (.faddr 1
 (.t 9)),l 62 61,o 63 (.faddr 1 (.t 6)),n (.store 1 (.t 63) (.t 62))]) (.seq (.reg [o 64 (.faddr 0 (.t 9)),l 65 64,o 66 (.bin .neq (.t 65) (i 3)),m 67 66,g 68 67 false
 (.faddr 1 (.t 9)),g 69 67 false (.load false 1 (.t 68)),g 70 67 false (.call 106 [.t 69,.k (.val (.int .i64 1)),.k (.val (.int .i64 100))]),g 71 67 false (.un .not (.t 70)),o
 72 (.pick (.t 67) T (.t 71))]) (.cond (.t 72) (.seq (.reg [o 73 (.build [.val (.str ⟨#[]⟩),.val (.int .i64 0),.emp 3] []),n (.store 3 (.t 2) (.t 73)),o 3 (.mov (i 4))]) (.ret))
 (.skip)))) (.seq (.reg [o 75 (.load true 5 (.t 4)),o 76 (.call 59 [.t 75,.k (.val (.str ⟨#[101,110,100,112,111,105,110,116,115]⟩))]),m 74 76,o 77 (.ext 0 (.t 74)),o 78
 (.ext 1 (.t 74)),o 11 (.alloc [.val (.int .i64 0),.val (.int .i64 0),.val (.str ⟨#[]⟩),.emp 1,.emp 5]),n (.store 5 (.t 11) (.t 77)),m 12 78]) (.seq (.seq (.reg [o 79 (.faddr
 0 (.t 11)),l 80 79,o 81 (.bin .neq (.t 80) (i 5))]) (.cond (.t 81) (.seq (.reg [o 82 (.build [.val (.str ⟨#[]⟩),.val (.int .i64 0),.emp 3] []),n (.store 3 (.t 2) (.t 82)),o 3
 (.mov (i 9))]) (.ret)) (.skip))) (ir46_from10))))
def ir46:PC:=.seq (.reg [o 2 (.alloc [.val (.str ⟨#[]⟩),.val (.int .i64 0),.emp 3]),o 3 (.mov (i 0))]) (.seq (.reg [m 24 0,o 25 (.call 58 [.t 24]),m 23 25,o 26 (.ext 0 (.t
 23)),o 27 (.ext 1 (.t 23)),o 4 (.alloc [.val (.int .i64 0),.val (.int .i64 0),.val (.str ⟨#[]⟩),.emp 1,.emp 5]),n (.store 5 (.t 4) (.t 26)),m 5 27]) (.seq (.seq (.reg [m 28
 5,o 29 (.bin .neq (.t 28) (i 0))]) (.cond (.t 29) (.seq (.reg [o 30 (.build [.val (.str ⟨#[]⟩),.val (.int .i64 0),.emp 3] []),m 31 5,n (.store 3 (.t 2) (.t 30)),m 3 31])
 (.ret)) (.skip))) (.seq (.seq (.reg [o 32 (.faddr 0 (.t 4)),l 33 32,o 34 (.bin .neq (.t 33) (i 6))]) (.cond (.t 34) (.seq (.reg [o 35 (.build [.val (.str ⟨#[]⟩),.val (.int .i64
 0),.emp 3] []),n (.store 3 (.t 2) (.t 35)),o 3 (.mov (i 9))]) (.ret)) (.skip))) (.seq (.reg [o 36 (.build [.val (.str ⟨#[]⟩),.val (.int .i64 0),.emp 3] [(0,1,.k (.val (.str
 ⟨#[100,101,102,97,117,108,116]⟩)))]),o 6 (.alloc [.val (.str ⟨#[]⟩),.val (.int .i64 0),.emp 3]),n (.store 3 (.t 6) (.t 36))]) (.seq (.seq (.reg [o 38 (.load true 5 (.t
 4)),o 39 (.call 59 [.t 38,.k (.val (.str ⟨#[103,114,111,117,112]⟩))]),m 37 39,o 40 (.ext 0 (.t 37)),o 41 (.ext 1 (.t 37)),o 7 (.alloc [.val (.int .i64 0),.val (.int .i64
 0),.val (.str ⟨#[]⟩),.emp 1,.emp 5]),n (.store 5 (.t 7) (.t 40)),m 8 41]) (.seq (.reg [m 42 8]) (.cond (.t 42) (.seq (.reg [o 43 (.faddr 2 (.t 7)),l 44 43,o 45 (.faddr 0 (.t
 6)),n (.store 1 (.t 45) (.t 44))]) (.seq (.reg [o 46 (.faddr 0 (.t 7)),l 47 46,o 48 (.bin .neq (.t 47) (i 4)),m 49 48,g 50 49 false (.faddr 2 (.t 7)),g 51 49 false (.load
 false 1 (.t 50)),g 52 49 false (.call 105 [.t 51]),g 53 49 false (.un .not (.t 52)),o 54 (.pick (.t 49) T (.t 53))]) (.cond (.t 54) (.seq (.reg [o 55 (.build [.val (.str ⟨#[]⟩),
 .val (.int .i64 0),.emp 3] []),n (.store 3 (.t 2) (.t 55)),o 3 (.mov (i 10))]) (.ret)) (.skip)))) (.skip)))) (ir46_from6))))))
theorem ok46:N5 Tryz.prog 46 ir46 1 [.c 2 true 3,.t 3]=true:=by kernel_rfl
def ir9:PC:=.seq (.reg [o 2 (.mov F)]) (.seq (.seq (.reg [m 11 0,o 12 (.lens (.t 11)),o 13 (.bin .gtr (.t 12) (i 1048576))]) (.cond (.t 13) (.seq (.reg [o 2 (.mov T)]) (.ret))
 (.skip))) (.seq (.reg [m 15 0,o 16 (.call 45 [.t 15]),m 14 16,o 17 (.ext 0 (.t 14)),o 18 (.ext 1 (.t 14)),o 3 (.alloc [.val (.str ⟨#[]⟩),.val (.int .i64 0),.emp 3]),n
 (.store 3 (.t 3) (.t 17)),m 4 18]) (.seq (.reg [m 20 0,o 21 (.call 46 [.t 20]),m 19 21,o 22 (.ext 0 (.t 19)),o 23 (.ext 1 (.t 19)),o 5 (.alloc [.val (.str ⟨#[]⟩),.val (.int
 .i64 0),.emp 3]),n (.store 3 (.t 5) (.t 22)),m 6 23]) (.seq (.seq (.reg [o 24 (.load true 3 (.t 5)),o 25 (.load true 3 (.t 3)),o 26 (.call 47 [.t 24,.t 25]),o 27 (.un .not
 (.t 26)),m 28 27,g 29 28 false (.mov (.t 6)),g 30 28 false (.mov (.t 4)),g 31 28 false (.bin .neq (.t 29) (.t 30)),o 32 (.pick (.t 28) T (.t 31))]) (.cond (.t 32) (.seq (.reg
 [o 2 (.mov F)]) (.ret)) (.skip))) (.seq (.reg [o 7 (.mov (i 1))]) (.seq (.reg [o 33 (.load true 3 (.t 5)),m 34 7,o 35 (.callr 48 (.t 33) [.t 34]),m 7 35]) (.seq (.reg [o 8 (.mov
 (i 1))]) (.seq (.reg [o 36 (.load true 3 (.t 5)),m 37 8,o 38 (.call 49 [.t 36,.t 37]),m 8 38]) (.seq (.seq (.reg [m 39 8,o 40 (.bin .lss (.t 39) (i 0))]) (.cond (.t 40) (.seq
 (.reg [o 2 (.mov F)]) (.ret)) (.skip))) (.seq (.seq (.reg [m 41 8,m 42 7,o 43 (.bin .neq (.t 41) (.t 42))]) (.cond (.t 43) (.seq (.reg [o 2 (.mov F)]) (.ret)) (.skip))) (.seq
 (.reg [m 45 0,o 46 (.call 46 [.t 45]),m 44 46,o 47 (.ext 0 (.t 44)),o 48 (.ext 1 (.t 44)),o 9 (.alloc [.val (.str ⟨#[]⟩),.val (.int .i64 0),.emp 3]),n (.store 3 (.t 9) (.t
 47)),m 10 48]) (.seq (.seq (.reg [o 49 (.load true 3 (.t 9)),o 50 (.load true 3 (.t 3)),o 51 (.call 47 [.t 49,.t 50]),o 52 (.un .not (.t 51)),m 53 52,g 54 53 false (.mov (.t
 10)),g 55 53 false (.mov (.t 4)),g 56 53 false (.bin .neq (.t 54) (.t 55)),o 57 (.pick (.t 53) T (.t 56))]) (.cond (.t 57) (.seq (.reg [o 2 (.mov F)]) (.ret)) (.skip))) (.seq
 (.reg [o 8 (.mov (i 1))]) (.seq (.reg [o 58 (.load true 3 (.t 5)),m 59 8,o 60 (.call 49 [.t 58,.t 59]),m 8 60]) (.seq (.seq (.reg [m 61 8,o 62 (.bin .lss (.t 61) (i 0))])
 (.cond (.t 62) (.seq (.reg [o 2 (.mov F)]) (.ret)) (.skip))) (.seq (.seq (.reg [m 63 8,m 64 7,o 65 (.bin .neq (.t 63) (.t 64))]) (.cond (.t 65) (.seq (.reg [o 2 (.mov F)])
 (.ret)) (.skip))) (.seq (.reg [o 2 (.mov T)]) (.ret))))))))))))))))))
theorem ok9:N5 Tryz.prog 9 ir9 1 [.t 2]=true:=by kernel_rfl
end Go.Proofs
end
