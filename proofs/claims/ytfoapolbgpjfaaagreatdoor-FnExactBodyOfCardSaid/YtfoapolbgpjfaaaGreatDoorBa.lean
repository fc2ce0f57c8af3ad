/- Ba: merged out of IRs, IRt, IRw, IRx, IRy, IRp, IRq, IRu, IRm, IRn, IRe, IRf, IRg, IRo, IRpp, IRjj, IRbc, IRkk, IRvv. -/
import Derived.Test.YtfoapolbgpjfaaaGreatDoorPWv
import Derived.Test.YtfoapolbgpjfaaaGreatDoorChecked
import Derived.KernelRfl
set_option maxRecDepth 100000
section
namespace Go.Proofs
open Go.PW Go.PW.I
def ir129:PC:=.seq (.reg [o 6 (.mov F)]) (.seq (.reg [m 7 0,m 8 1,o 9 (.bin .geq (.t 7) (.t 8)),m 10 9,g 11 10 true (.mov (.t 0)),g 12 10 true (.mov (.t 2)),g 13 10 true
 (.bin .leq (.t 11) (.t 12)),o 14 (.pick (.t 10) (.t 13) F),m 6 14]) (.ret))
theorem ok129:j8 Tryz.prog 129 ir129 3 [.t 6]=true:=by kernel_rfl
def ir198:PC:=.seq (.reg [o 4 (.mov (i 0))]) (.seq (.seq (.reg [o 5 (.mov (i 0))]) (.block 0 (.loop (.ghost (.seq (.seq (.reg [m 6 5,m 7 0,o 8 (.lens (.t 7)),o 9 (.bin .lss
 (.t 6) (.t 8))]) (.cond (.t 9) (.skip) (.exit 0))) (.seq (.block 1 (.seq (.reg [m 12 0,m 13 5,o 14 (.idx (.t 12) (.t 13)),m 15 1,o 16 (.bin .eql (.t 14) (.t 15))]) (.cond (.t
 16) (.seq (.reg [m 17 5,m 4 17]) (.ret)) (.skip)))) (.reg [m 10 5,o 11 (.bin .add (.t 10) (i 1)),m 5 11]))))))) (.seq (.reg [m 18 0,o 19 (.lens (.t 18)),m 4 19]) (.ret)))
theorem ok198:j8 Tryz.prog 198 ir198 2 [.t 4]=true:=by kernel_rfl
def ir133:PC:=.seq (.reg [o 2 (.mov (z #[]))]) (.seq (.reg [o 6 (.lit 5 1 []),m 3 6]) (.seq (.seq (.reg [o 4 (.mov (i 0))]) (.block 0 (.loop (.ghost (.seq (.seq (.reg [m 7 4,m
 8 0,o 9 (.lens (.t 8)),o 10 (.bin .lss (.t 7) (.t 9))]) (.cond (.t 10) (.skip) (.exit 0))) (.seq (.block 1 (.seq (.reg [m 13 0,m 14 4,o 15 (.idx (.t 13) (.t 14)),m 5 15])
 (.seq (.seq (.reg [m 16 5,o 17 (.bin .geq (.t 16) (.k (.val (.int .u8 65)))),m 18 17,g 19 18 true (.mov (.t 5)),g 20 18 true (.bin .leq (.t 19) (.k (.val (.int .u8 90)))),o 21
 (.pick (.t 18) (.t 20) F)]) (.cond (.t 21) (.reg [m 22 5,o 23 (.bin .add (.t 22) (.k (.val (.int .u8 32)))),m 5 23]) (.skip))) (.reg [m 24 3,m 25 5,o 26 (.lit 5 1 [.t 25]),o
 27 (.app 5 1 1 (.t 24) (.t 26)),m 3 27])))) (.reg [m 11 4,o 12 (.bin .add (.t 11) (i 1)),m 4 12]))))))) (.seq (.reg [m 28 3,o 29 (.tostr (.t 28)),m 2 29]) (.ret))))
theorem ok133:j8 Tryz.prog 133 ir133 1 [.t 2]=true:=by kernel_rfl
def ir269:PC:=.seq (.reg [o 4 (.mov F)]) (.seq (.seq (.reg [o 5 (.mov (i 0))]) (.block 0 (.loop (.ghost (.seq (.seq (.reg [m 6 5,m 7 0,o 8 (.lens (.t 7)),o 9 (.bin .lss (.t
 6) (.t 8))]) (.cond (.t 9) (.skip) (.exit 0))) (.seq (.block 1 (.seq (.reg [m 12 0,m 13 5,o 14 (.idx (.t 12) (.t 13)),o 15 (.bin .lss (.t 14) (.k (.val (.int .u8 33)))),m 16
 15,g 17 16 false (.mov (.t 0)),g 18 16 false (.mov (.t 5)),g 19 16 false (.idx (.t 17) (.t 18)),g 20 16 false (.bin .gtr (.t 19) (.k (.val (.int .u8 126)))),o 21 (.pick (.t
 16) T (.t 20)),m 22 21,g 23 22 false (.mov (.t 1)),g 24 22 false (.mov (.t 0)),g 25 22 false (.mov (.t 5)),g 26 22 false (.idx (.t 24) (.t 25)),g 27 22 false (.call 198 [.t
 23,.t 26]),g 28 22 false (.mov (.t 1)),g 29 22 false (.lens (.t 28)),g 30 22 false (.bin .lss (.t 27) (.t 29)),o 31 (.pick (.t 22) T (.t 30))]) (.cond (.t 31) (.seq (.reg [o 4
 (.mov F)]) (.ret)) (.skip)))) (.reg [m 10 5,o 11 (.bin .add (.t 10) (i 1)),m 5 11]))))))) (.seq (.reg [o 4 (.mov T)]) (.ret)))
theorem ok269:j8 Tryz.prog 269 ir269 2 [.t 4]=true:=by kernel_rfl
def ir200:PC:=.seq (.reg [o 2 (.mov F)]) (.seq (.reg [m 3 0,o 4 (.bin .eql (.t 3) (z #[104,116,116,112])),m 5 4,g 6 5 false (.mov (.t 0)),g 7 5 false (.bin .eql (.t 6) (z
 #[104,116,116,112,115])),o 8 (.pick (.t 5) T (.t 7)),m 2 8]) (.ret))
theorem ok200:j8 Tryz.prog 200 ir200 1 [.t 2]=true:=by kernel_rfl
def ir268:PC:=.seq (.reg [o 2 (.mov F)]) (.seq (.seq (.reg [m 5 0,o 6 (.lens (.t 5)),o 7 (.call 129 [.t 6,.k (.val (.int .i64 1)),.k (.val (.int .i64 12))]),o 8 (.un .not
 (.t 7))]) (.cond (.t 8) (.seq (.reg [o 2 (.mov F)]) (.ret)) (.skip))) (.seq (.seq (.reg [o 3 (.mov (i 0))]) (.block 0 (.loop (.ghost (.seq (.seq (.reg [m 9 3,m 10 0,o 11 (.lens
 (.t 10)),o 12 (.bin .lss (.t 9) (.t 11))]) (.cond (.t 12) (.skip) (.exit 0))) (.seq (.block 1 (.seq (.reg [m 15 0,m 16 3,o 17 (.idx (.t 15) (.t 16)),o 18 (.bin .geq (.t 17) (.k
 (.val (.int .u8 97)))),m 19 18,g 20 19 true (.mov (.t 0)),g 21 19 true (.mov (.t 3)),g 22 19 true (.idx (.t 20) (.t 21)),g 23 19 true (.bin .leq (.t 22) (.k (.val (.int .u8
 122)))),o 24 (.pick (.t 19) (.t 23) F),m 4 24]) (.seq (.reg [m 25 4,o 26 (.un .not (.t 25)),m 27 26,g 28 27 true (.mov (.t 3)),g 29 27 true (.bin .eql (.t 28) (i 0)),g 30 27
 true (.mov (.t 29)),g 31 30 false (.mov (.t 0)),g 32 30 false (.mov (.t 3)),g 33 30 false (.idx (.t 31) (.t 32)),g 34 30 false (.call 215 [.t 33]),g 35 30 false (.un .not (.t
 34)),g 36 30 false (.mov (.t 35)),g 37 36 true (.mov (.t 0)),g 38 36 true (.mov (.t 3)),g 39 36 true (.idx (.t 37) (.t 38)),g 40 36 true (.bin .neq (.t 39) (.k (.val (.int .u8
 45)))),g 41 30 false (.pick (.t 36) (.t 40) F),g 42 30 false (.mov (.t 41)),g 43 42 true (.mov (.t 0)),g 44 42 true (.mov (.t 3)),g 45 42 true (.idx (.t 43) (.t 44)),g 46 42
 true (.bin .neq (.t 45) (.k (.val (.int .u8 43)))),g 47 30 false (.pick (.t 42) (.t 46) F),g 48 30 false (.mov (.t 47)),g 49 48 true (.mov (.t 0)),g 50 48 true (.mov (.t 3)),g
 51 48 true (.idx (.t 49) (.t 50)),g 52 48 true (.bin .neq (.t 51) (.k (.val (.int .u8 46)))),g 53 30 false (.pick (.t 48) (.t 52) F),g 54 27 true (.pick (.t 30) T (.t 53)),o 55
 (.pick (.t 27) (.t 54) F)]) (.cond (.t 55) (.seq (.reg [o 2 (.mov F)]) (.ret)) (.skip))))) (.reg [m 13 3,o 14 (.bin .add (.t 13) (i 1)),m 3 14]))))))) (.seq (.reg [o 2 (.mov T)])
 (.ret))))
theorem ok268:j8 Tryz.prog 268 ir268 1 [.t 2]=true:=by kernel_rfl
def ir270:PC:=.seq (.reg [o 2 (.mov F)]) (.seq (.reg [o 3 (.mov T)]) (.seq (.seq (.reg [o 4 (.mov (i 0))]) (.block 0 (.loop (.ghost (.seq (.seq (.reg [m 6 4,m 7 0,o 8 (.lens
 (.t 7)),o 9 (.bin .lss (.t 6) (.t 8))]) (.cond (.t 9) (.skip) (.exit 0))) (.seq (.block 1 (.seq (.reg [m 12 0,m 13 4,o 14 (.idx (.t 12) (.t 13)),o 15 (.bin .geq (.t 14) (.k
 (.val (.int .u8 97)))),m 16 15,g 17 16 true (.mov (.t 0)),g 18 16 true (.mov (.t 4)),g 19 16 true (.idx (.t 17) (.t 18)),g 20 16 true (.bin .leq (.t 19) (.k (.val (.int .u8
 122)))),o 21 (.pick (.t 16) (.t 20) F),m 22 21,g 23 22 false (.mov (.t 0)),g 24 22 false (.mov (.t 4)),g 25 22 false (.idx (.t 23) (.t 24)),g 26 22 false (.call 215 [.t 25]),
 o 27 (.pick (.t 22) T (.t 26)),m 5 27]) (.seq (.seq (.reg [m 28 5,o 29 (.un .not (.t 28)),m 30 29,g 31 30 true (.mov (.t 3)),g 32 30 true (.mov (.t 31)),g 33 32 false (.mov
 (.t 0)),g 34 32 false (.mov (.t 4)),g 35 32 false (.idx (.t 33) (.t 34)),g 36 32 false (.bin .neq (.t 35) (.k (.val (.int .u8 45)))),g 37 32 false (.mov (.t 36)),g 38 37 true
 (.mov (.t 0)),g 39 37 true (.mov (.t 4)),g 40 37 true (.idx (.t 38) (.t 39)),g 41 37 true (.bin .neq (.t 40) (.k (.val (.int .u8 46)))),g 42 32 false (.pick (.t 37) (.t 41) F),
 g 43 30 true (.pick (.t 32) T (.t 42)),o 44 (.pick (.t 30) (.t 43) F)]) (.cond (.t 44) (.seq (.reg [o 2 (.mov F)]) (.ret)) (.skip))) (.reg [m 45 5,o 46 (.un .not (.t 45)),m 3
 46])))) (.reg [m 10 4,o 11 (.bin .add (.t 10) (i 1)),m 4 11]))))))) (.seq (.reg [m 47 3,o 48 (.un .not (.t 47)),m 2 48]) (.ret))))
theorem ok270:j8 Tryz.prog 270 ir270 1 [.t 2]=true:=by kernel_rfl
def ir241:PC:=.seq (.reg [o 2 (.mov (i 0))]) (.seq (.seq (.reg [m 3 0,o 4 (.bin .eql (.t 3) (z #[104,116,116,112]))]) (.cond (.t 4) (.seq (.reg [o 2 (.mov (i 80))]) (.ret))
 (.skip))) (.seq (.reg [o 2 (.mov (i 443))]) (.ret)))
theorem ok241:j8 Tryz.prog 241 ir241 1 [.t 2]=true:=by kernel_rfl
def ir215:PC:=.seq (.reg [o 2 (.mov F)]) (.seq (.reg [m 3 0,o 4 (.bin .geq (.t 3) (.k (.val (.int .u8 48)))),m 5 4,g 6 5 true (.mov (.t 0)),g 7 5 true (.bin .leq (.t 6) (.k
 (.val (.int .u8 57)))),o 8 (.pick (.t 5) (.t 7) F),m 2 8]) (.ret))
theorem ok215:j8 Tryz.prog 215 ir215 1 [.t 2]=true:=by kernel_rfl
def ir223:PC:=.seq (.reg [o 2 (.mov (z #[]))]) (.seq (.seq (.reg [m 3 0,o 4 (.bin .eql (.t 3) (i (-9223372036854775808)))]) (.cond (.t 4) (.seq (.reg [o 2 (.mov (z #[45,57,
 50,50,51,51,55,50,48,51,54,56,53,52,55,55,53,56,48,56]))]) (.ret)) (.skip))) (.seq (.seq (.reg [m 5 0,o 6 (.bin .lss (.t 5) (i 0))]) (.cond (.t 6) (.seq (.reg [m
 7 0,o 8 (.un .neg (.t 7)),o 9 (.call 223 [.t 8]),o 10 (.bin .add (z #[45]) (.t 9)),m 2 10]) (.ret)) (.skip))) (.seq (.seq (.reg [m 11 0,o 12 (.bin .lss (.t 11) (i 10))])
 (.cond (.t 12) (.seq (.reg [m 13 0,o 14 (.bin .add (i 48) (.t 13)),o 15 (.conv .u8 (.t 14)),o 16 (.lit 5 1 [.t 15]),o 17 (.tostr (.t 16)),m 2 17]) (.ret)) (.skip))) (.seq
 (.draw [m 18 0,o 19 (.bin .quo (.t 18) (i 10)),o 20 (.call 223 [.t 19]),m 21 0,o 22 (.bin .rem (.t 21) (i 10)),o 23 (.bin .add (i 48) (.t 22)),o 24 (.conv .u8 (.t 23)),o 25
 (.lit 5 1 [.t 24]),o 26 (.tostr (.t 25)),o 27 (.bin .add (.t 20) (.t 26))] [m 2 27]) (.ret)))))
theorem ok223:j8 Tryz.prog 223 ir223 1 [.t 2]=true:=by kernel_rfl
def ir240_from5:PC:=.seq (.seq (.reg [o 6 (.mov (i 0))]) (.block 0 (.loop (.ghost (.seq (.seq (.reg [m 39 6,m 40 0,o 41 (.lens (.t 40)),o 42 (.bin .lss (.t 39) (.t 41))])
 (.cond (.t 42) (.skip) (.exit 0))) (.seq (.block 1 (.seq (.seq (.reg [m 45 0,m 46 6,o 47 (.idx (.t 45) (.t 46)),o 48 (.bin .lss (.t 47) (.k (.val (.int .u8 48)))),m 49 48,g 50
 49 false (.mov (.t 0)),g 51 49 false (.mov (.t 6)),g 52 49 false (.idx (.t 50) (.t 51)),g 53 49 false (.bin .gtr (.t 52) (.k (.val (.int .u8 57)))),o 54 (.pick (.t 49) T (.t
 53))]) (.cond (.t 54) (.seq (.reg [o 2 (.mov (i 0)),o 3 (.mov F)]) (.ret)) (.skip))) (.reg [m 55 5,o 56 (.bin .mul (.t 55) (i 10)),m 57 0,m 58 6,o 59 (.idx (.t 57) (.t 58)),o
 60 (.conv .i64 (.t 59)),o 61 (.bin .add (.t 56) (.t 60)),o 62 (.bin .sub (.t 61) (i 48)),m 5 62]))) (.reg [m 43 6,o 44 (.bin .add (.t 43) (i 1)),m 6 44]))))))) (.seq (.reg [m
 63 4,m 64 5,o 65 (.bin .mul (.t 63) (.t 64)),m 2 65,o 3 (.mov T)]) (.ret))
def ir240_from3:PC:=.seq (.seq (.reg [m 17 0,o 18 (.lens (.t 17)),o 19 (.bin .eql (.t 18) (i 0)),m 20 19,g 21 20 false (.mov (.t 0)),g 22 20 false (.lens (.t 21)),g 23 20
 false (.bin .gtr (.t 22) (i 18)),o 24 (.pick (.t 20) T (.t 23)),m 25 24,g 26 25 false (.mov (.t 0)),g 27 25 false (.idx (.t 26) (i 0)),g 28 25 false (.bin .eql (.t 27) (.k
 (.val (.int .u8 48)))),g 29 25 false (.mov (.t 28)),g 30 29 true (.mov (.t 0)),g 31 29 true (.lens (.t 30)),g 32 29 true (.bin .gtr (.t 31) (i 1)),g 33 29 true (.mov (.t 32)),
 g 34 33 false (.mov (.t 4)),g 35 33 false (.bin .lss (.t 34) (i 0)),g 36 29 true (.pick (.t 33) T (.t 35)),g 37 25 false (.pick (.t 29) (.t 36) F),o 38 (.pick (.t 25) T (.t
 37))]) (.cond (.t 38) (.seq (.reg [o 2 (.mov (i 0)),o 3 (.mov F)]) (.ret)) (.skip))) (.seq (.reg [o 5 (.mov (i 0))]) (ir240_from5))
def ir240:PC:=.seq (.reg [o 2 (.mov (i 0)),o 3 (.mov F)]) (.seq (.reg [o 4 (.mov (i 1))]) (.seq (.seq (.reg [m 7 0,o 8 (.lens (.t 7)),o 9 (.bin .gtr (.t 8) (i 0)),m 10 9,g
 11 10 true (.mov (.t 0)),g 12 10 true (.idx (.t 11) (i 0)),g 13 10 true (.bin .eql (.t 12) (.k (.val (.int .u8 45)))),o 14 (.pick (.t 10) (.t 13) F)]) (.cond (.t 14) (.seq (.reg
 [o 4 (.mov (i (-1)))]) (.reg [m 15 0,o 16 (.slc 0 (.t 15) (some (i 1)) none),m 0 16])) (.skip))) (ir240_from3)))
theorem ok240:j8 Tryz.prog 240 ir240 1 [.t 2,.t 3]=true:=by kernel_rfl
def ir242:PC:=.seq (.reg [o 1 (.box (.t 0)),o 2 (.mov (z #[]))]) (.seq (.reg [o 4 (.faddr 0 (.t 1)),l 5 4,o 6 (.bin .add (.t 5) (z #[58,47,47])),o 7 (.faddr 2 (.t 1)),l 8
 7,o 9 (.bin .add (.t 6) (.t 8)),m 3 9]) (.seq (.seq (.reg [o 10 (.faddr 3 (.t 1)),l 11 10,o 12 (.bin .gtr (.t 11) (i 0))]) (.cond (.t 12) (.reg [m 13 3,o 14 (.faddr 3 (.t 1)),
 l 15 14,o 16 (.call 223 [.t 15]),o 17 (.bin .add (z #[58]) (.t 16)),o 18 (.bin .add (.t 13) (.t 17)),m 3 18]) (.skip))) (.seq (.reg [m 19 3,m 2 19]) (.ret))))
theorem ok242:j8 Tryz.prog 242 ir242 1 [.t 2]=true:=by kernel_rfl
def ir201_from4:PC:=.seq (.draw [m 25 3,o 26 (.faddr 2 (.t 1)),l 27 26,o 28 (.faddr 3 (.t 1)),l 29 28,o 30 (.build [.val (.str ⟨#[]⟩),.val (.str ⟨#[]⟩),.val (.str ⟨#[]⟩),
 .val (.int .i64 0),.val (.str ⟨#[]⟩),.val (.str ⟨#[]⟩),.val (.str ⟨#[]⟩),.val (.bool false),.val (.bool false)] [(2,1,.t 27),(3,1,.t 29)]),o 31 (.call 242 [.t 30]),o 32
 (.slc 0 (.t 31) (some (i 3)) none),o 33 (.faddr 4 (.t 1)),l 34 33,o 35 (.bin .add (.t 32) (.t 34)),o 36 (.bin .add (.t 25) (.t 35))] [m 3 36]) (.seq (.seq (.reg [o 37 (.faddr 7
 (.t 1)),l 38 37]) (.cond (.t 38) (.reg [m 39 3,o 40 (.faddr 5 (.t 1)),l 41 40,o 42 (.bin .add (z #[63]) (.t 41)),o 43 (.bin .add (.t 39) (.t 42)),m 3 43]) (.skip))) (.seq
 (.seq (.reg [o 44 (.faddr 8 (.t 1)),l 45 44]) (.cond (.t 45) (.reg [m 46 3,o 47 (.faddr 6 (.t 1)),l 48 47,o 49 (.bin .add (z #[35]) (.t 48)),o 50 (.bin .add (.t 46) (.t 49)),
 m 3 50]) (.skip))) (.seq (.reg [m 51 3,m 2 51]) (.ret))))
def ir201:PC:=.seq (.reg [o 1 (.box (.t 0)),o 2 (.mov (z #[]))]) (.seq (.seq (.reg [o 4 (.faddr 0 (.t 1)),l 5 4,o 6 (.call 200 [.t 5]),o 7 (.un .not (.t 6))]) (.cond (.t 7)
 (.seq (.reg [o 8 (.faddr 0 (.t 1)),l 9 8,o 10 (.bin .add (.t 9) (z #[58])),o 11 (.faddr 4 (.t 1)),l 12 11,o 13 (.bin .add (.t 10) (.t 12)),m 2 13]) (.ret)) (.skip))) (.seq
 (.reg [o 14 (.faddr 0 (.t 1)),l 15 14,o 16 (.bin .add (.t 15) (z #[58,47,47])),m 3 16]) (.seq (.seq (.reg [o 17 (.faddr 1 (.t 1)),l 18 17,o 19 (.bin .neq (.t 18) (z #[]))])
 (.cond (.t 19) (.reg [m 20 3,o 21 (.faddr 1 (.t 1)),l 22 21,o 23 (.bin .add (.t 22) (z #[64])),o 24 (.bin .add (.t 20) (.t 23)),m 3 24]) (.skip))) (ir201_from4))))
theorem ok201:j8 Tryz.prog 201 ir201 1 [.t 2]=true:=by kernel_rfl
def ir239_ops1_43:List POper:=[g 46 45 false (.load true 9 (.t 1)),g 47 45 false (.call 201 [.t 46]),g 48 45 false (.lens (.t 47)),g 49 45 false (.bin .gtr (.t 48) (i 100)),
 o 50 (.pick (.t 45) T (.t 49))]
def ir239_ops1_37:List POper:=g 40 39 false (.faddr 6 (.t 1)) :: g 41 39 false (.load false 1 (.t 40)) :: g 42 39 false (.call 269 [.t 41,.k (.val (.str ⟨#[]⟩))]) :: g 43 39
 false (.un .not (.t 42)) :: o 44 (.pick (.t 39) T (.t 43)) :: m 45 44 :: ir239_ops1_43
def ir239_ops1_31:List POper:=g 34 33 false (.faddr 5 (.t 1)) :: g 35 33 false (.load false 1 (.t 34)) :: g 36 33 false (.call 269 [.t 35,.k (.val (.str ⟨#[35]⟩))]) :: g 37 33
 false (.un .not (.t 36)) :: o 38 (.pick (.t 33) T (.t 37)) :: m 39 38 :: ir239_ops1_37
def ir239_ops1_25:List POper:=g 28 27 false (.faddr 4 (.t 1)) :: g 29 27 false (.load false 1 (.t 28)) :: g 30 27 false (.call 269 [.t 29,.k (.val (.str ⟨#[63,35]⟩))]) :: g 31
 27 false (.un .not (.t 30)) :: o 32 (.pick (.t 27) T (.t 31)) :: m 33 32 :: ir239_ops1_31
def ir239_ops1_15:List POper:=g 18 17 false (.faddr 8 (.t 1)) :: g 19 17 false (.load false 1 (.t 18)) :: g 20 17 false (.un .not (.t 19)) :: g 21 17 false (.mov (.t 20)) :: g
 22 21 true (.faddr 6 (.t 1)) :: g 23 21 true (.load false 1 (.t 22)) :: g 24 21 true (.bin .neq (.t 23) (z #[])) :: g 25 17 false (.pick (.t 21) (.t 24) F) :: o 26 (.pick (.t 17) T
 (.t 25)) :: m 27 26 :: ir239_ops1_25
def ir239_from3:PC:=.seq (.draw [o 78 (.faddr 1 (.t 1)),l 79 78,o 80 (.call 269 [.t 79,.k (.val (.str ⟨#[47,63,35,64]⟩))]),m 81 80,g 82 81 true (.faddr 2 (.t 1)),g 83
 81 true (.load false 1 (.t 82)),g 84 81 true (.call 270 [.t 83]),o 85 (.pick (.t 81) (.t 84) F),m 86 85,g 87 86 true (.faddr 3 (.t 1)),g 88 86 true (.load false 1 (.t 87)),g
 89 86 true (.call 129 [.t 88,.k (.val (.int .i64 0)),.k (.val (.int .i64 65535))]),o 90 (.pick (.t 86) (.t 89) F),m 91 90,g 92 91 true (.faddr 3 (.t 1)),g 93 91 true (.load
 false 1 (.t 92)),g 94 91 true (.faddr 0 (.t 1)),g 95 91 true (.load false 1 (.t 94)),g 96 91 true (.call 241 [.t 95]),g 97 91 true (.bin .neq (.t 93) (.t 96)),o 98 (.pick (.t
 91) (.t 97) F),m 99 98,g 100 99 true (.faddr 4 (.t 1)),g 101 99 true (.load false 1 (.t 100)),g 102 99 true (.lens (.t 101)),g 103 99 true (.bin .gtr (.t 102) (i 0)),o 104
 (.pick (.t 99) (.t 103) F),m 105 104,g 106 105 true (.faddr 4 (.t 1)),g 107 105 true (.load false 1 (.t 106)),g 108 105 true (.idx (.t 107) (i 0)),g 109 105 true (.bin .eql
 (.t 108) (.k (.val (.int .u8 47)))),o 110 (.pick (.t 105) (.t 109) F)] [m 2 110]) (.ret)
def ir239_from2:PC:=.seq (.seq (.reg [o 51 (.faddr 0 (.t 1)),l 52 51,o 53 (.call 200 [.t 52]),o 54 (.un .not (.t 53))]) (.cond (.t 54) (.seq (.reg [o 55 (.faddr 1 (.t 1)),l
 56 55,o 57 (.bin .eql (.t 56) (z #[])),m 58 57,g 59 58 true (.faddr 2 (.t 1)),g 60 58 true (.load false 1 (.t 59)),g 61 58 true (.bin .eql (.t 60) (z #[])),o 62 (.pick (.t
 58) (.t 61) F),m 63 62,g 64 63 true (.faddr 3 (.t 1)),g 65 63 true (.load false 1 (.t 64)),g 66 63 true (.bin .eql (.t 65) (i 0)),o 67 (.pick (.t 63) (.t 66) F),m 68 67,g 69
 68 true (.faddr 7 (.t 1)),g 70 68 true (.load false 1 (.t 69)),g 71 68 true (.un .not (.t 70)),o 72 (.pick (.t 68) (.t 71) F),m 73 72,g 74 73 true (.faddr 8 (.t 1)),g 75 73
 true (.load false 1 (.t 74)),g 76 73 true (.un .not (.t 75)),o 77 (.pick (.t 73) (.t 76) F),m 2 77]) (.ret)) (.skip))) (ir239_from3)
def ir239:PC:=.seq (.reg [o 1 (.box (.t 0)),o 2 (.mov F)]) (.seq (.seq (.reg (o 3 (.faddr 0 (.t 1)) :: l 4 3 :: o 5 (.call 268 [.t 4]) :: o 6 (.un .not (.t 5)) :: m 7 6 :: g 8
 7 false (.faddr 7 (.t 1)) :: g 9 7 false (.load false 1 (.t 8)) :: g 10 7 false (.un .not (.t 9)) :: g 11 7 false (.mov (.t 10)) :: g 12 11 true (.faddr 5 (.t 1)) :: g 13 11 true
 (.load false 1 (.t 12)) :: g 14 11 true (.bin .neq (.t 13) (z #[])) :: g 15 7 false (.pick (.t 11) (.t 14) F) :: o 16 (.pick (.t 7) T (.t 15)) :: m 17 16 :: ir239_ops1_15)) (.cond
 (.t 50) (.seq (.reg [o 2 (.mov F)]) (.ret)) (.skip))) (ir239_from2))
theorem ok239:j8 Tryz.prog 239 ir239 1 [.t 2]=true:=by kernel_rfl
end Go.Proofs
end
section
namespace Go.Proofs
open Go.PW Go.PW.I
def ir199_from18:PC:=.seq (.draw [o 149 (.load true 9 (.t 5)),o 150 (.load true 9 (.t 5)),o 151 (.call 239 [.t 150])] [n (.store 9 (.t 2) (.t 149)),m 3 151]) (.ret)
def ir199_from17:PC:=.seq (.seq (.reg [m 122 4,m 123 6,o 124 (.lens (.t 123)),o 125 (.bin .lss (.t 122) (.t 124))]) (.cond (.t 125) (.seq (.reg [m 127 6,m 128 4,o 129 (.bin
 .add (.t 128) (i 1)),o 130 (.slc 0 (.t 127) (some (.t 129)) none),o 131 (.call 240 [.t 130]),m 126 131,o 132 (.ext 0 (.t 126)),o 133 (.ext 1 (.t 126)),m 11 132,m 12 133])
 (.seq (.seq (.reg [m 134 12,o 135 (.un .not (.t 134)),m 136 135,g 137 136 false (.mov (.t 11)),g 138 136 false (.call 129 [.t 137,.k (.val (.int .i64 1)),.k (.val (.int .i64
 65535))]),g 139 136 false (.un .not (.t 138)),o 140 (.pick (.t 136) T (.t 139))]) (.cond (.t 140) (.seq (.reg [o 141 (.build [.val (.str ⟨#[]⟩),.val (.str ⟨#[]⟩),.val (.str
 ⟨#[]⟩),.val (.int .i64 0),.val (.str ⟨#[]⟩),.val (.str ⟨#[]⟩),.val (.str ⟨#[]⟩),.val (.bool false),.val (.bool false)] []),n (.store 9 (.t 2) (.t 141)),o 3 (.mov F)])
 (.ret)) (.skip))) (.seq (.reg [m 142 11,o 143 (.faddr 0 (.t 5)),l 144 143,o 145 (.call 241 [.t 144]),o 146 (.bin .neq (.t 142) (.t 145))]) (.cond (.t 146) (.reg [m 147 11,o
 148 (.faddr 3 (.t 5)),n (.store 1 (.t 148) (.t 147))]) (.skip))))) (.skip))) (ir199_from18)
def ir199_from15:PC:=.seq (.reg [m 115 6,o 116 (.call 198 [.t 115,.k (.val (.int .u8 58))]),m 4 116]) (.seq (.reg [m 117 6,m 118 4,o 119 (.slc 0 (.t 117) none (some (.t
 118))),o 120 (.call 133 [.t 119]),o 121 (.faddr 2 (.t 5)),n (.store 1 (.t 121) (.t 120))]) (ir199_from17))
def ir199_from14:PC:=.seq (.seq (.reg [m 101 6,o 102 (.call 198 [.t 101,.k (.val (.int .u8 64))]),m 10 102]) (.seq (.reg [m 103 10,m 104 6,o 105 (.lens (.t 104)),o 106
 (.bin .lss (.t 103) (.t 105))]) (.cond (.t 106) (.seq (.reg [m 107 6,m 108 10,o 109 (.slc 0 (.t 107) none (some (.t 108))),o 110 (.faddr 1 (.t 5)),n (.store 1 (.t 110) (.t
 109))]) (.reg [m 111 6,m 112 10,o 113 (.bin .add (.t 112) (i 1)),o 114 (.slc 0 (.t 111) (some (.t 113)) none),m 6 114])) (.skip)))) (ir199_from15)
def ir199_from12:PC:=.seq (.seq (.reg [o 94 (.faddr 4 (.t 5)),l 95 94,o 96 (.bin .eql (.t 95) (z #[]))]) (.cond (.t 96) (.reg [o 97 (.faddr 4 (.t 5)),n (.store 1 (.t 97) (z
 #[47]))]) (.skip))) (.seq (.reg [m 98 6,m 99 4,o 100 (.slc 0 (.t 98) none (some (.t 99))),m 6 100]) (ir199_from14))
def ir199_from10:PC:=.seq (.reg [m 88 6,o 89 (.call 198 [.t 88,.k (.val (.int .u8 47))]),m 4 89]) (.seq (.reg [m 90 6,m 91 4,o 92 (.slc 0 (.t 90) (some (.t 91)) none),o 93
 (.faddr 4 (.t 5)),n (.store 1 (.t 93) (.t 92))]) (ir199_from12))
def ir199_from9:PC:=.seq (.seq (.reg [m 73 6,o 74 (.call 198 [.t 73,.k (.val (.int .u8 63))]),m 9 74]) (.seq (.reg [m 75 9,m 76 6,o 77 (.lens (.t 76)),o 78 (.bin .lss (.t
 75) (.t 77))]) (.cond (.t 78) (.seq (.reg [o 79 (.faddr 7 (.t 5)),n (.store 1 (.t 79) T)]) (.seq (.reg [m 80 6,m 81 9,o 82 (.bin .add (.t 81) (i 1)),o 83 (.slc 0 (.t 80) (some
 (.t 82)) none),o 84 (.faddr 5 (.t 5)),n (.store 1 (.t 84) (.t 83))]) (.reg [m 85 6,m 86 9,o 87 (.slc 0 (.t 85) none (some (.t 86))),m 6 87]))) (.skip)))) (ir199_from10)
def ir199_from8:PC:=.seq (.seq (.reg [m 58 6,o 59 (.call 198 [.t 58,.k (.val (.int .u8 35))]),m 8 59]) (.seq (.reg [m 60 8,m 61 6,o 62 (.lens (.t 61)),o 63 (.bin .lss (.t
 60) (.t 62))]) (.cond (.t 63) (.seq (.reg [o 64 (.faddr 8 (.t 5)),n (.store 1 (.t 64) T)]) (.seq (.reg [m 65 6,m 66 8,o 67 (.bin .add (.t 66) (i 1)),o 68 (.slc 0 (.t 65) (some
 (.t 67)) none),o 69 (.faddr 6 (.t 5)),n (.store 1 (.t 69) (.t 68))]) (.reg [m 70 6,m 71 8,o 72 (.slc 0 (.t 70) none (some (.t 71))),m 6 72]))) (.skip)))) (ir199_from9)
def ir199_from5:PC:=.seq (.seq (.reg [o 29 (.faddr 0 (.t 5)),l 30 29,o 31 (.call 200 [.t 30]),o 32 (.un .not (.t 31))]) (.cond (.t 32) (.seq (.reg [m 33 6,o 34 (.call 198
 [.t 33,.k (.val (.int .u8 35))]),m 7 34]) (.seq (.reg [m 35 6,m 36 7,o 37 (.slc 0 (.t 35) none (some (.t 36))),m 6 37]) (.seq (.reg [m 38 6,o 39 (.call 198 [.t 38,.k (.val
 (.int .u8 63))]),m 7 39]) (.seq (.reg [m 40 6,m 41 7,o 42 (.slc 0 (.t 40) none (some (.t 41))),o 43 (.faddr 4 (.t 5)),n (.store 1 (.t 43) (.t 42))]) (.seq (.draw [o 44 (.load
 true 9 (.t 5)),o 45 (.load true 9 (.t 5)),o 46 (.call 239 [.t 45])] [n (.store 9 (.t 2) (.t 44)),m 3 46]) (.ret)))))) (.skip))) (.seq (.seq (.reg [m 47 6,o 48 (.lens (.t 47)),
 o 49 (.bin .lss (.t 48) (i 2)),m 50 49,g 51 50 false (.mov (.t 6)),g 52 50 false (.slc 0 (.t 51) none (some (i 2))),g 53 50 false (.bin .neq (.t 52) (z #[47,47])),o 54 (.pick
 (.t 50) T (.t 53))]) (.cond (.t 54) (.seq (.reg [o 55 (.build [.val (.str ⟨#[]⟩),.val (.str ⟨#[]⟩),.val (.str ⟨#[]⟩),.val (.int .i64 0),.val (.str ⟨#[]⟩),.val (.str ⟨#[]⟩),
 .val (.str ⟨#[]⟩),.val (.bool false),.val (.bool false)] []),n (.store 9 (.t 2) (.t 55)),o 3 (.mov F)]) (.ret)) (.skip))) (.seq (.reg [m 56 6,o 57 (.slc 0 (.t 56) (some (i 2))
 none),m 6 57]) (ir199_from8)))
def ir199:PC:=.seq (.reg [o 2 (.alloc [.val (.str ⟨#[]⟩),.val (.str ⟨#[]⟩),.val (.str ⟨#[]⟩),.val (.int .i64 0),.val (.str ⟨#[]⟩),.val (.str ⟨#[]⟩),.val (.str ⟨#[]⟩),.val
 (.bool false),.val (.bool false)]),o 3 (.mov F)]) (.seq (.reg [m 13 0,o 14 (.call 198 [.t 13,.k (.val (.int .u8 58))]),m 4 14]) (.seq (.seq (.reg [m 15 4,m 16 0,o 17 (.lens
 (.t 16)),o 18 (.bin .eql (.t 15) (.t 17))]) (.cond (.t 18) (.seq (.reg [o 19 (.build [.val (.str ⟨#[]⟩),.val (.str ⟨#[]⟩),.val (.str ⟨#[]⟩),.val (.int .i64 0),.val (.str
 ⟨#[]⟩),.val (.str ⟨#[]⟩),.val (.str ⟨#[]⟩),.val (.bool false),.val (.bool false)] []),n (.store 9 (.t 2) (.t 19)),o 3 (.mov F)]) (.ret)) (.skip))) (.seq (.reg [m 20 0,m 21
 4,o 22 (.slc 0 (.t 20) none (some (.t 21))),o 23 (.call 133 [.t 22]),o 24 (.build [.val (.str ⟨#[]⟩),.val (.str ⟨#[]⟩),.val (.str ⟨#[]⟩),.val (.int .i64 0),.val (.str
 ⟨#[]⟩),.val (.str ⟨#[]⟩),.val (.str ⟨#[]⟩),.val (.bool false),.val (.bool false)] [(0,1,.t 23)]),o 5 (.alloc [.val (.str ⟨#[]⟩),.val (.str ⟨#[]⟩),.val (.str ⟨#[]⟩),.val
 (.int .i64 0),.val (.str ⟨#[]⟩),.val (.str ⟨#[]⟩),.val (.str ⟨#[]⟩),.val (.bool false),.val (.bool false)]),n (.store 9 (.t 5) (.t 24))]) (.seq (.reg [m 25 0,m 26 4,o 27
 (.bin .add (.t 26) (i 1)),o 28 (.slc 0 (.t 25) (some (.t 27)) none),m 6 28]) (ir199_from5)))))
theorem ok199:j8 Tryz.prog 199 ir199 1 [.c 2 true 9,.t 3]=true:=by kernel_rfl
end Go.Proofs
end
section
namespace Go.Proofs
open Go.PW Go.PW.I
def ir106:PC:=.seq (.reg [o 6 (.mov F)]) (.seq (.reg [m 7 1,m 8 0,o 9 (.bin .leq (.t 7) (.t 8)),m 10 9,g 11 10 true (.mov (.t 0)),g 12 10 true (.mov (.t 2)),g 13 10 true
 (.bin .leq (.t 11) (.t 12)),o 14 (.pick (.t 10) (.t 13) F),m 6 14]) (.ret))
theorem ok106:j8 Tryz.prog 106 ir106 3 [.t 6]=true:=by kernel_rfl
def ir125:PC:=.seq (.reg [o 4 (.mov (i 0))]) (.seq (.seq (.reg [m 5 0]) (.cond (.t 5) (.seq (.reg [o 4 (.mov (i 0))]) (.ret)) (.skip))) (.seq (.reg [m 6 1,m 4 6]) (.ret)))
theorem ok125:j8 Tryz.prog 125 ir125 2 [.t 4]=true:=by kernel_rfl
def ir84:PC:=.seq (.reg [o 2 (.mov (i 0))]) (.seq (.reg [m 3 0,o 4 (.lens (.t 3)),o 5 (.bin .leq (.t 4) (i 65536)),o 6 (.call 125 [.t 5,.k (.val (.int .i64 2))]),m 2 6])
 (.ret))
theorem ok84:j8 Tryz.prog 84 ir84 1 [.t 2]=true:=by kernel_rfl
def ir138:PC:=.seq (.reg [o 2 (.mov F)]) (.seq (.reg [m 3 0,o 4 (.bin .leq (.k (.val (.int .u8 97))) (.t 3)),m 5 4,g 6 5 true (.mov (.t 0)),g 7 5 true (.bin .leq (.t 6) (.k
 (.val (.int .u8 122)))),o 8 (.pick (.t 5) (.t 7) F),m 2 8]) (.ret))
theorem ok138:j8 Tryz.prog 138 ir138 1 [.t 2]=true:=by kernel_rfl
def ir260:PC:=.seq (.reg [o 2 (.mov F)]) (.seq (.reg [m 3 0,o 4 (.bin .leq (.k (.val (.int .u8 48))) (.t 3)),m 5 4,g 6 5 true (.mov (.t 0)),g 7 5 true (.bin .leq (.t 6) (.k
 (.val (.int .u8 57)))),o 8 (.pick (.t 5) (.t 7) F),m 2 8]) (.ret))
theorem ok260:j8 Tryz.prog 260 ir260 1 [.t 2]=true:=by kernel_rfl
def ir272_o18:List POper:=[g 18 17 true (.mov (.t 3)),g 19 17 true (.bin .eql (.t 18) (i 0)),g 20 17 true (.mov (.t 19)),g 21 20 false (.mov (.t 4)),g 22 20 false (.call 260
 [.t 21]),g 23 20 false (.un .not (.t 22)),g 24 20 false (.mov (.t 23)),g 25 24 true (.mov (.t 4)),g 26 24 true (.bin .neq (.t 25) (.k (.val (.int .u8 45)))),g 27 20 false
 (.pick (.t 24) (.t 26) F),g 28 20 false (.mov (.t 27)),g 29 28 true (.mov (.t 4)),g 30 28 true (.bin .neq (.t 29) (.k (.val (.int .u8 43)))),g 31 20 false (.pick (.t 28) (.t
 30) F),g 32 20 false (.mov (.t 31)),g 33 32 true (.mov (.t 4)),g 34 32 true (.bin .neq (.t 33) (.k (.val (.int .u8 46)))),g 35 20 false (.pick (.t 32) (.t 34) F),g 36 17 true
 (.pick (.t 20) T (.t 35)),o 37 (.pick (.t 17) (.t 36) F)]
def ir272_l9:PC:=.seq (.reg [o 9 (.bin .lss (.t 8) (.t 7))]) (.seq (.cond (.t 9) (.skip) (.exit 0)) (.seq (.block 1 (.seq (.reg [m 10 8,m 3 10]) (.seq (.reg [m 11 0,m 12 3,o
 13 (.idx (.t 11) (.t 12)),m 4 13]) (.seq (.reg (m 14 4 :: o 15 (.call 138 [.t 14]) :: o 16 (.un .not (.t 15)) :: m 17 16 :: ir272_o18)) (.cond (.t 37) (.seq (.reg [o 2 (.mov F)])
 (.ret)) (.skip)))))) (.reg [o 38 (.bin .add (.t 8) (i 1)),m 8 38])))
def ir272:PC:=.seq (.reg [o 2 (.mov F)]) (.seq (.seq (.reg [m 5 0,o 6 (.lens (.t 5)),o 7 (.mn (.t 6) (i 13)),o 8 (.mov (i 0))]) (.block 0 (.loop (.ghost ir272_l9)))) (.seq
 (.reg [m 39 0,o 40 (.lens (.t 39)),o 41 (.call 106 [.t 40,.k (.val (.int .i64 1)),.k (.val (.int .i64 12))]),m 2 41]) (.ret)))
theorem ok272:j8 Tryz.prog 272 ir272 1 [.t 2]=true:=by kernel_rfl
def ir274_o44:List POper:=[g 44 43 false (.mov (.t 0)),g 45 43 false (.mov (.t 3)),g 46 43 false (.bin .sub (.t 45) (i 1)),g 47 43 false (.idx (.t 44) (.t 46)),g 48 43 false
 (.bin .eql (.t 47) (.k (.val (.int .u8 46)))),o 49 (.pick (.t 43) T (.t 48))]
def ir274_o37:List POper:=g 37 36 false (.mov (.t 0)) :: g 38 36 false (.mov (.t 3)) :: g 39 36 false (.bin .sub (.t 38) (i 1)) :: g 40 36 false (.idx (.t 37) (.t 39)) :: g 41
 36 false (.bin .eql (.t 40) (.k (.val (.int .u8 45)))) :: o 42 (.pick (.t 36) T (.t 41)) :: m 43 42 :: ir274_o44
def ir274_o30:List POper:=g 30 29 false (.mov (.t 3)) :: g 31 29 false (.mov (.t 0)) :: g 32 29 false (.lens (.t 31)) :: g 33 29 false (.bin .sub (.t 32) (i 1)) :: g 34 29 false
 (.bin .eql (.t 30) (.t 33)) :: o 35 (.pick (.t 29) T (.t 34)) :: m 36 35 :: ir274_o37
def ir274_o26:List POper:=g 26 25 false (.mov (.t 3)) :: g 27 25 false (.bin .eql (.t 26) (i 0)) :: o 28 (.pick (.t 25) T (.t 27)) :: m 29 28 :: ir274_o30
def ir274_s19:PC:=.seq (.reg (m 19 4 :: o 20 (.bin .neq (.t 19) (.k (.val (.int .u8 45)))) :: m 21 20 :: g 22 21 true (.mov (.t 4)) :: g 23 21 true (.bin .neq (.t 22) (.k (.val
 (.int .u8 46)))) :: o 24 (.pick (.t 21) (.t 23) F) :: m 25 24 :: ir274_o26)) (.cond (.t 49) (.seq (.reg [o 2 (.mov F)]) (.ret)) (.skip))
def ir274_l8:PC:=.seq (.reg [o 8 (.bin .lss (.t 7) (.t 6))]) (.seq (.cond (.t 8) (.skip) (.exit 0)) (.seq (.block 1 (.seq (.reg [m 9 7,m 3 9]) (.seq (.reg [m 10 0,m 11 3,o 12
 (.idx (.t 10) (.t 11)),m 4 12]) (.seq (.seq (.reg [m 13 4,o 14 (.call 138 [.t 13]),m 15 14,g 16 15 false (.mov (.t 4)),g 17 15 false (.call 260 [.t 16]),o 18 (.pick (.t 15) T
 (.t 17))]) (.cond (.t 18) (.exit 1) (.skip))) (ir274_s19))))) (.reg [o 50 (.bin .add (.t 7) (i 1)),m 7 50])))
def ir274:PC:=.seq (.reg [o 2 (.mov F)]) (.seq (.seq (.reg [m 5 0,o 6 (.lens (.t 5)),o 7 (.mov (i 0))]) (.block 0 (.loop (.ghost ir274_l8)))) (.seq (.reg [m 51 0,o 52 (.bin
 .neq (.t 51) (z #[])),m 2 52]) (.ret)))
theorem ok274:j8 Tryz.prog 274 ir274 1 [.t 2]=true:=by kernel_rfl
def ir273:PC:=.seq (.reg [o 2 (.mov F)]) (.seq (.seq (.reg [m 4 0,o 5 (.lens (.t 4)),o 6 (.mov (i 0))]) (.block 0 (.loop (.ghost (.seq (.reg [o 7 (.bin .lss (.t 6) (.t 5))])
 (.seq (.cond (.t 7) (.skip) (.exit 0)) (.seq (.block 1 (.seq (.reg [m 8 6,m 3 8]) (.seq (.reg [m 9 0,m 10 3,o 11 (.idx (.t 9) (.t 10)),o 12 (.conv .i64 (.t 11)),o 13 (.call
 106 [.t 12,.k (.val (.int .i64 33)),.k (.val (.int .i64 126))]),o 14 (.un .not (.t 13))]) (.cond (.t 14) (.seq (.reg [o 2 (.mov F)]) (.ret)) (.skip))))) (.reg [o 15 (.bin .add
 (.t 6) (i 1)),m 6 15])))))))) (.seq (.reg [o 2 (.mov T)]) (.ret)))
theorem ok273:j8 Tryz.prog 273 ir273 1 [.t 2]=true:=by kernel_rfl
def ir156:PC:=.seq (.reg [o 1 (.box (.t 0)),o 2 (.mov F)]) (.seq (.reg [o 3 (.faddr 0 (.t 1)),l 4 3,o 5 (.bin .eql (.t 4) (z #[104,116,116,112])),m 6 5,g 7 6 false
 (.faddr 0 (.t 1)),g 8 6 false (.load false 1 (.t 7)),g 9 6 false (.bin .eql (.t 8) (z #[104,116,116,112,115])),o 10 (.pick (.t 6) T (.t 9)),m 2 10]) (.ret))
theorem ok156:j8 Tryz.prog 156 ir156 1 [.t 2]=true:=by kernel_rfl
def ir250:PC:=.seq (.reg [o 2 (.mov (i 0))]) (.seq (.seq (.reg [m 3 0,o 4 (.bin .eql (.t 3) (z #[104,116,116,112]))]) (.cond (.t 4) (.seq (.reg [o 2 (.mov (i 80))]) (.ret))
 (.skip))) (.seq (.reg [o 2 (.mov (i 443))]) (.ret)))
theorem ok250:j8 Tryz.prog 250 ir250 1 [.t 2]=true:=by kernel_rfl
def ir120:PC:=.seq (.reg [o 2 (.mov (z #[]))]) (.seq (.reg [m 3 0,o 4 (.call 183 [.t 3]),m 2 4]) (.ret))
theorem ok120:j8 Tryz.prog 120 ir120 1 [.t 2]=true:=by kernel_rfl
end Go.Proofs
end
section
namespace Go.Proofs
open Go.PW Go.PW.I
def ir157_from7:PC:=.seq (.seq (.reg [o 41 (.faddr 7 (.t 1)),l 42 41]) (.cond (.t 42) (.reg [m 43 3,o 44 (.faddr 5 (.t 1)),l 45 44,o 46 (.bin .add (z #[63]) (.t 45)),o 47
 (.bin .add (.t 43) (.t 46)),m 3 47]) (.skip))) (.seq (.seq (.reg [o 48 (.faddr 8 (.t 1)),l 49 48]) (.cond (.t 49) (.reg [m 50 3,o 51 (.faddr 6 (.t 1)),l 52 51,o 53 (.bin .add
 (z #[35]) (.t 52)),o 54 (.bin .add (.t 50) (.t 53)),m 3 54]) (.skip))) (.seq (.reg [m 55 3,m 2 55]) (.ret)))
def ir157_from6:PC:=.seq (.reg [m 37 3,o 38 (.faddr 4 (.t 1)),l 39 38,o 40 (.bin .add (.t 37) (.t 39)),m 3 40]) (ir157_from7)
def ir157_from5:PC:=.seq (.seq (.reg [o 28 (.faddr 3 (.t 1)),l 29 28,o 30 (.bin .neq (.t 29) (i 0))]) (.cond (.t 30) (.reg [m 31 3,o 32 (.faddr 3 (.t 1)),l 33 32,o 34
 (.call 120 [.t 33]),o 35 (.bin .add (z #[58]) (.t 34)),o 36 (.bin .add (.t 31) (.t 35)),m 3 36]) (.skip))) (ir157_from6)
def ir157_from4:PC:=.seq (.reg [m 24 3,o 25 (.faddr 2 (.t 1)),l 26 25,o 27 (.bin .add (.t 24) (.t 26)),m 3 27]) (ir157_from5)
def ir157_from2:PC:=.seq (.reg [o 13 (.faddr 0 (.t 1)),l 14 13,o 15 (.bin .add (.t 14) (z #[58,47,47])),m 3 15]) (.seq (.seq (.reg [o 16 (.faddr 1 (.t 1)),l 17 16,o 18
 (.bin .neq (.t 17) (z #[]))]) (.cond (.t 18) (.reg [m 19 3,o 20 (.faddr 1 (.t 1)),l 21 20,o 22 (.bin .add (.t 21) (z #[64])),o 23 (.bin .add (.t 19) (.t 22)),m 3 23])
 (.skip))) (ir157_from4))
def ir157:PC:=.seq (.reg [o 1 (.box (.t 0)),o 2 (.mov (z #[]))]) (.seq (.seq (.reg [o 4 (.load true 9 (.t 1)),o 5 (.call 156 [.t 4]),o 6 (.un .not (.t 5))]) (.cond (.t 6)
 (.seq (.reg [o 7 (.faddr 0 (.t 1)),l 8 7,o 9 (.bin .add (.t 8) (z #[58])),o 10 (.faddr 4 (.t 1)),l 11 10,o 12 (.bin .add (.t 9) (.t 11)),m 2 12]) (.ret)) (.skip)))
 (ir157_from2))
theorem ok157:j8 Tryz.prog 157 ir157 1 [.t 2]=true:=by kernel_rfl
def ir249_from4:PC:=.seq (.reg [m 23 4,m 24 5,o 25 (.isnil true false (.t 24)),m 26 25,g 27 26 true (.mov (.t 6)),g 28 26 true (.bin .leq (.t 27) (i 18)),o 29 (.pick (.t
 26) (.t 28) F),m 30 29,g 31 30 true (.mov (.t 4)),g 32 30 true (.call 183 [.t 31]),g 33 30 true (.mov (.t 0)),g 34 30 true (.bin .eql (.t 32) (.t 33)),o 35 (.pick (.t 30) (.t
 34) F),m 2 23,m 3 35]) (.ret)
def ir249:PC:=.seq (.reg [o 2 (.mov (i 0)),o 3 (.mov F)]) (.seq (.reg [m 8 0,o 9 (.call 277 [.t 8]),m 7 9,o 10 (.ext 0 (.t 7)),o 11 (.ext 1 (.t 7)),m 4 10,m 5 11]) (.seq
 (.reg [m 12 0,o 13 (.lens (.t 12)),m 6 13]) (.seq (.seq (.reg [m 14 0,o 15 (.bin .neq (.t 14) (z #[])),m 16 15,g 17 16 true (.mov (.t 0)),g 18 16 true (.idx (.t 17) (i 0)),g
 19 16 true (.bin .eql (.t 18) (.k (.val (.int .u8 45)))),o 20 (.pick (.t 16) (.t 19) F)]) (.cond (.t 20) (.reg [m 21 6,o 22 (.bin .sub (.t 21) (i 1)),m 6 22]) (.skip)))
 (ir249_from4))))
theorem ok249:j8 Tryz.prog 249 ir249 1 [.t 2,.t 3]=true:=by kernel_rfl
end Go.Proofs
end
section
namespace Go.Proofs
open Go.PW Go.PW.I
def ir247_o36:List POper:=[g 36 35 false (.faddr 1 (.t 1)),g 37 35 false (.load false 1 (.t 36)),g 38 35 false (.faddr 2 (.t 1)),g 39 35 false (.load false 1 (.t 38)),g 40
 35 false (.bin .add (.t 37) (.t 39)),g 41 35 false (.faddr 4 (.t 1)),g 42 35 false (.load false 1 (.t 41)),g 43 35 false (.bin .add (.t 40) (.t 42)),g 44 35 false (.faddr 5 (.t
 1)),g 45 35 false (.load false 1 (.t 44)),g 46 35 false (.bin .add (.t 43) (.t 45)),g 47 35 false (.faddr 6 (.t 1)),g 48 35 false (.load false 1 (.t 47)),g 49 35 false (.bin
 .add (.t 46) (.t 48)),g 50 35 false (.call 273 [.t 49]),g 51 35 false (.un .not (.t 50)),o 52 (.pick (.t 35) T (.t 51))]
def ir247_o30:List POper:=g 30 29 false (.load true 9 (.t 1)) :: g 31 29 false (.call 157 [.t 30]) :: g 32 29 false (.lens (.t 31)) :: g 33 29 false (.bin .gtr (.t 32) (i 100))
 :: o 34 (.pick (.t 29) T (.t 33)) :: m 35 34 :: ir247_o36
def ir247_o109:List POper:=[g 109 108 true (.faddr 8 (.t 1)),g 110 108 true (.load false 1 (.t 109)),g 111 108 true (.mov (.t 110)),g 112 111 false (.faddr 6 (.t 1)),g 113
 111 false (.load false 1 (.t 112)),g 114 111 false (.bin .eql (.t 113) (z #[])),g 115 108 true (.pick (.t 111) T (.t 114)),o 116 (.pick (.t 108) (.t 115) F)]
def ir247_o100:List POper:=g 100 99 true (.faddr 7 (.t 1)) :: g 101 99 true (.load false 1 (.t 100)) :: g 102 99 true (.mov (.t 101)) :: g 103 102 false (.faddr 5 (.t 1)) :: g
 104 102 false (.load false 1 (.t 103)) :: g 105 102 false (.bin .eql (.t 104) (z #[])) :: g 106 99 true (.pick (.t 102) T (.t 105)) :: o 107 (.pick (.t 99) (.t 106) F) :: m 108 107
 :: ir247_o109
def ir247_o94:List POper:=g 94 93 true (.faddr 5 (.t 1)) :: g 95 93 true (.load false 1 (.t 94)) :: g 96 93 true (.call 275 [.t 95,.k (.val (.str ⟨#[35]⟩))]) :: g 97 93 true
 (.un .not (.t 96)) :: o 98 (.pick (.t 93) (.t 97) F) :: m 99 98 :: ir247_o100
def ir247_o89:List POper:=g 89 88 true (.faddr 4 (.t 1)) :: g 90 88 true (.load false 1 (.t 89)) :: g 91 88 true (.call 228 [.t 90,.k (.val (.str ⟨#[47]⟩))]) :: o 92 (.pick (.t
 88) (.t 91) F) :: m 93 92 :: ir247_o94
def ir247_o81:List POper:=g 81 80 true (.faddr 3 (.t 1)) :: g 82 80 true (.load false 1 (.t 81)) :: g 83 80 true (.faddr 0 (.t 1)) :: g 84 80 true (.load false 1 (.t 83)) :: g
 85 80 true (.call 250 [.t 84]) :: g 86 80 true (.bin .neq (.t 82) (.t 85)) :: o 87 (.pick (.t 80) (.t 86) F) :: m 88 87 :: ir247_o89
def ir247_o76:List POper:=g 76 75 true (.faddr 3 (.t 1)) :: g 77 75 true (.load false 1 (.t 76)) :: g 78 75 true (.call 106 [.t 77,.k (.val (.int .i64 0)),.k (.val (.int .i64
 65535))]) :: o 79 (.pick (.t 75) (.t 78) F) :: m 80 79 :: ir247_o81
def ir247_from4:PC:=.seq (.draw (o 66 (.faddr 1 (.t 1)) :: l 67 66 :: o 68 (.call 154 [.t 67,.k (.val (.str ⟨#[47,63,35,64]⟩))]) :: o 69 (.un .not (.t 68)) :: m 70 69 :: g
 71 70 true (.faddr 2 (.t 1)) :: g 72 70 true (.load false 1 (.t 71)) :: g 73 70 true (.call 274 [.t 72]) :: o 74 (.pick (.t 70) (.t 73) F) :: m 75 74 :: ir247_o76) [m 2 116])
 (.ret)
def ir247_from3:PC:=.seq (.seq (.reg [o 56 (.load true 9 (.t 1)),o 57 (.call 156 [.t 56]),o 58 (.un .not (.t 57))]) (.cond (.t 58) (.seq (.reg [o 59 (.load true 9 (.t 1)),o
 60 (.faddr 0 (.t 1)),l 61 60,o 62 (.faddr 4 (.t 1)),l 63 62,o 64 (.build [.val (.str ⟨#[]⟩),.val (.str ⟨#[]⟩),.val (.str ⟨#[]⟩),.val (.int .i64 0),.val (.str ⟨#[]⟩),.val
 (.str ⟨#[]⟩),.val (.str ⟨#[]⟩),.val (.bool false),.val (.bool false)] [(0,1,.t 61),(4,1,.t 63)]),o 65 (.eqs false [0,0,0,2,0,0,0,1,1] (.t 59) (.t 64)),m 2 65])
 (.ret)) (.skip))) (ir247_from4)
def ir247_from2:PC:=.seq (.seq (.reg [o 53 (.faddr 4 (.t 1)),l 54 53,o 55 (.call 154 [.t 54,.k (.val (.str ⟨#[63,35]⟩))])]) (.cond (.t 55) (.seq (.reg [o 2 (.mov F)])
 (.ret)) (.skip))) (ir247_from3)
def ir247:PC:=.seq (.reg [o 1 (.box (.t 0)),o 2 (.mov F)]) (.seq (.seq (.reg (o 3 (.faddr 0 (.t 1)) :: l 4 3 :: o 5 (.call 272 [.t 4]) :: o 6 (.un .not (.t 5)) :: m 7 6 :: g 8
 7 false (.faddr 1 (.t 1)) :: g 9 7 false (.load false 1 (.t 8)) :: g 10 7 false (.lens (.t 9)) :: g 11 7 false (.faddr 2 (.t 1)) :: g 12 7 false (.load false 1 (.t 11)) :: g 13 7
 false (.lens (.t 12)) :: g 14 7 false (.bin .add (.t 10) (.t 13)) :: g 15 7 false (.faddr 4 (.t 1)) :: g 16 7 false (.load false 1 (.t 15)) :: g 17 7 false (.lens (.t 16)) :: g 18
 7 false (.bin .add (.t 14) (.t 17)) :: g 19 7 false (.faddr 5 (.t 1)) :: g 20 7 false (.load false 1 (.t 19)) :: g 21 7 false (.lens (.t 20)) :: g 22 7 false (.bin .add (.t 18) (.t
 21)) :: g 23 7 false (.faddr 6 (.t 1)) :: g 24 7 false (.load false 1 (.t 23)) :: g 25 7 false (.lens (.t 24)) :: g 26 7 false (.bin .add (.t 22) (.t 25)) :: g 27 7 false (.bin
 .gtr (.t 26) (i 100)) :: o 28 (.pick (.t 7) T (.t 27)) :: m 29 28 :: ir247_o30)) (.cond (.t 52) (.seq (.reg [o 2 (.mov F)]) (.ret)) (.skip))) (ir247_from2))
theorem ok247:j8 Tryz.prog 247 ir247 1 [.t 2]=true:=by kernel_rfl
end Go.Proofs
end
section
namespace Go.Proofs
open Go.PW Go.PW.I
def ir208_from15:PC:=.seq (.draw [o 123 (.load true 9 (.t 7)),o 124 (.load true 9 (.t 7)),o 125 (.call 247 [.t 124])] [n (.store 9 (.t 2) (.t 123)),m 3 125]) (.ret)
def ir208_from14:PC:=.seq (.reg [m 120 12,o 121 (.call 88 [.t 120]),o 122 (.faddr 2 (.t 7)),n (.store 1 (.t 122) (.t 121))]) (ir208_from15)
def ir208_from13:PC:=.seq (.seq (.reg [m 99 6]) (.cond (.t 99) (.seq (.reg [m 101 13,o 102 (.call 249 [.t 101]),m 100 102,o 103 (.ext 0 (.t 100)),o 104 (.ext 1 (.t 100)),m
 14 103,m 15 104]) (.seq (.seq (.reg [m 105 15,o 106 (.un .not (.t 105)),m 107 106,g 108 107 false (.mov (.t 14)),g 109 107 false (.call 106 [.t 108,.k (.val (.int .i64 1)),
 .k (.val (.int .i64 65535))]),g 110 107 false (.un .not (.t 109)),o 111 (.pick (.t 107) T (.t 110))]) (.cond (.t 111) (.seq (.reg [o 112 (.build [.val (.str ⟨#[]⟩),.val (.str
 ⟨#[]⟩),.val (.str ⟨#[]⟩),.val (.int .i64 0),.val (.str ⟨#[]⟩),.val (.str ⟨#[]⟩),.val (.str ⟨#[]⟩),.val (.bool false),.val (.bool false)] []),n (.store 9 (.t 2) (.t 112)),o
 3 (.mov F)]) (.ret)) (.skip))) (.seq (.reg [m 113 14,o 114 (.faddr 0 (.t 7)),l 115 114,o 116 (.call 250 [.t 115]),o 117 (.bin .neq (.t 113) (.t 116))]) (.cond (.t 117) (.reg [m
 118 14,o 119 (.faddr 3 (.t 7)),n (.store 1 (.t 119) (.t 118))]) (.skip))))) (.skip))) (ir208_from14)
def ir208_from12:PC:=.seq (.reg [m 94 5,o 95 (.call 153 [.t 94,.k (.val (.str ⟨#[58]⟩))]),m 93 95,o 96 (.ext 0 (.t 93)),o 97 (.ext 1 (.t 93)),o 98 (.ext 2 (.t 93)),m 12
 96,m 13 97,m 6 98]) (ir208_from13)
def ir208_from11:PC:=.seq (.seq (.reg [m 84 5,o 85 (.call 153 [.t 84,.k (.val (.str ⟨#[64]⟩))]),m 83 85,o 86 (.ext 0 (.t 83)),o 87 (.ext 1 (.t 83)),o 88 (.ext 2 (.t 83)),
 m 9 86,m 10 87,m 11 88]) (.seq (.reg [m 89 11]) (.cond (.t 89) (.reg [m 90 9,m 91 10,o 92 (.faddr 1 (.t 7)),n (.store 1 (.t 92) (.t 90)),m 5 91]) (.skip)))) (ir208_from12)
def ir208_from10:PC:=.seq (.seq (.reg [m 72 5,o 73 (.call 231 [.t 72,.k (.val (.int .u8 47))]),m 8 73]) (.seq (.reg [m 74 8,o 75 (.bin .geq (.t 74) (i 0))]) (.cond (.t 75)
 (.draw [m 76 5,m 77 8,o 78 (.slc 0 (.t 76) none (some (.t 77))),m 79 5,m 80 8,o 81 (.slc 0 (.t 79) (some (.t 80)) none),m 5 78] [o 82 (.faddr 4 (.t 7)),n (.store 1 (.t 82)
 (.t 81))]) (.skip)))) (ir208_from11)
def ir208_from7:PC:=.seq (.reg [m 56 5,o 57 (.call 153 [.t 56,.k (.val (.str ⟨#[35]⟩))]),m 55 57,o 58 (.ext 0 (.t 55)),o 59 (.ext 1 (.t 55)),o 60 (.ext 2 (.t 55)),m 5 58,
 o 61 (.faddr 6 (.t 7)),n (.store 1 (.t 61) (.t 59)),o 62 (.faddr 8 (.t 7)),n (.store 1 (.t 62) (.t 60))]) (.seq (.reg [m 64 5,o 65 (.call 153 [.t 64,.k (.val (.str
 ⟨#[63]⟩))]),m 63 65,o 66 (.ext 0 (.t 63)),o 67 (.ext 1 (.t 63)),o 68 (.ext 2 (.t 63)),m 5 66,o 69 (.faddr 5 (.t 7)),n (.store 1 (.t 69) (.t 67)),o 70 (.faddr 7 (.t 7)),n
 (.store 1 (.t 70) (.t 68))]) (.seq (.reg [o 71 (.faddr 4 (.t 7)),n (.store 1 (.t 71) (z #[47]))]) (ir208_from10)))
def ir208_from4:PC:=.seq (.seq (.reg [o 28 (.load true 9 (.t 7)),o 29 (.call 156 [.t 28]),o 30 (.un .not (.t 29))]) (.cond (.t 30) (.seq (.reg [m 32 5,o 33 (.call 153 [.t 32,
 .k (.val (.str ⟨#[35]⟩))]),m 31 33,o 34 (.ext 0 (.t 31)),o 35 (.ext 1 (.t 31)),o 36 (.ext 2 (.t 31)),m 5 34]) (.seq (.reg [m 38 5,o 39 (.call 153 [.t 38,.k (.val (.str
 ⟨#[63]⟩))]),m 37 39,o 40 (.ext 0 (.t 37)),o 41 (.ext 1 (.t 37)),o 42 (.ext 2 (.t 37)),o 43 (.faddr 4 (.t 7)),n (.store 1 (.t 43) (.t 40))]) (.seq (.draw [o 44 (.load true 9
 (.t 7)),o 45 (.load true 9 (.t 7)),o 46 (.call 247 [.t 45])] [n (.store 9 (.t 2) (.t 44)),m 3 46]) (.ret)))) (.skip))) (.seq (.reg [m 48 5,o 49 (.call 248 [.t 48,.k (.val
 (.str ⟨#[47,47]⟩))]),m 47 49,o 50 (.ext 0 (.t 47)),o 51 (.ext 1 (.t 47)),m 5 50,m 6 51]) (.seq (.seq (.reg [m 52 6,o 53 (.un .not (.t 52))]) (.cond (.t 53) (.seq (.reg [o 54
 (.build [.val (.str ⟨#[]⟩),.val (.str ⟨#[]⟩),.val (.str ⟨#[]⟩),.val (.int .i64 0),.val (.str ⟨#[]⟩),.val (.str ⟨#[]⟩),.val (.str ⟨#[]⟩),.val (.bool false),.val (.bool
 false)] []),n (.store 9 (.t 2) (.t 54)),o 3 (.mov F)]) (.ret)) (.skip))) (ir208_from7)))
def ir208:PC:=.seq (.reg [o 2 (.alloc [.val (.str ⟨#[]⟩),.val (.str ⟨#[]⟩),.val (.str ⟨#[]⟩),.val (.int .i64 0),.val (.str ⟨#[]⟩),.val (.str ⟨#[]⟩),.val (.str ⟨#[]⟩),.val
 (.bool false),.val (.bool false)]),o 3 (.mov F)]) (.seq (.reg [m 17 0,o 18 (.call 153 [.t 17,.k (.val (.str ⟨#[58]⟩))]),m 16 18,o 19 (.ext 0 (.t 16)),o 20 (.ext 1 (.t 16)),
 o 21 (.ext 2 (.t 16)),m 4 19,m 5 20,m 6 21]) (.seq (.reg [m 22 4,o 23 (.call 88 [.t 22]),o 24 (.build [.val (.str ⟨#[]⟩),.val (.str ⟨#[]⟩),.val (.str ⟨#[]⟩),.val (.int .i64
 0),.val (.str ⟨#[]⟩),.val (.str ⟨#[]⟩),.val (.str ⟨#[]⟩),.val (.bool false),.val (.bool false)] [(0,1,.t 23)]),o 7 (.alloc [.val (.str ⟨#[]⟩),.val (.str ⟨#[]⟩),.val (.str
 ⟨#[]⟩),.val (.int .i64 0),.val (.str ⟨#[]⟩),.val (.str ⟨#[]⟩),.val (.str ⟨#[]⟩),.val (.bool false),.val (.bool false)]),n (.store 9 (.t 7) (.t 24))]) (.seq (.seq (.reg [m 25
 6,o 26 (.un .not (.t 25))]) (.cond (.t 26) (.seq (.reg [o 27 (.build [.val (.str ⟨#[]⟩),.val (.str ⟨#[]⟩),.val (.str ⟨#[]⟩),.val (.int .i64 0),.val (.str ⟨#[]⟩),.val (.str
 ⟨#[]⟩),.val (.str ⟨#[]⟩),.val (.bool false),.val (.bool false)] []),n (.store 9 (.t 2) (.t 27)),o 3 (.mov F)]) (.ret)) (.skip))) (ir208_from4))))
theorem ok208:j8 Tryz.prog 208 ir208 1 [.c 2 true 9,.t 3]=true:=by kernel_rfl
end Go.Proofs
end
section
namespace Go.Proofs
open Go.PW Go.PW.I
def ir155:PC:=.seq (.reg [o 2 (.alloc [.val (.str ⟨#[]⟩),.val (.str ⟨#[]⟩),.val (.str ⟨#[]⟩),.val (.int .i64 0),.val (.str ⟨#[]⟩),.val (.str ⟨#[]⟩),.val (.str ⟨#[]⟩),.val
 (.bool false),.val (.bool false)]),o 3 (.mov (i 0))]) (.seq (.seq (.reg [m 7 0,o 8 (.call 84 [.t 7]),m 4 8]) (.seq (.reg [m 9 4,o 10 (.bin .neq (.t 9) (i 0))]) (.cond (.t 10)
 (.seq (.reg [o 11 (.build [.val (.str ⟨#[]⟩),.val (.str ⟨#[]⟩),.val (.str ⟨#[]⟩),.val (.int .i64 0),.val (.str ⟨#[]⟩),.val (.str ⟨#[]⟩),.val (.str ⟨#[]⟩),.val (.bool false),
 .val (.bool false)] []),m 12 4,n (.store 9 (.t 2) (.t 11)),m 3 12]) (.ret)) (.skip)))) (.seq (.reg [m 14 0,o 15 (.call 208 [.t 14]),m 13 15,o 16 (.ext 0 (.t 13)),o 17 (.ext
 1 (.t 13)),o 5 (.alloc [.val (.str ⟨#[]⟩),.val (.str ⟨#[]⟩),.val (.str ⟨#[]⟩),.val (.int .i64 0),.val (.str ⟨#[]⟩),.val (.str ⟨#[]⟩),.val (.str ⟨#[]⟩),.val (.bool false),
 .val (.bool false)]),n (.store 9 (.t 5) (.t 16)),m 6 17]) (.seq (.seq (.reg [m 18 6,o 19 (.un .not (.t 18))]) (.cond (.t 19) (.seq (.reg [o 20 (.build [.val (.str ⟨#[]⟩),.val
 (.str ⟨#[]⟩),.val (.str ⟨#[]⟩),.val (.int .i64 0),.val (.str ⟨#[]⟩),.val (.str ⟨#[]⟩),.val (.str ⟨#[]⟩),.val (.bool false),.val (.bool false)] []),n (.store 9 (.t 2) (.t
 20)),o 3 (.mov (i 3))]) (.ret)) (.skip))) (.seq (.reg [o 21 (.load true 9 (.t 5)),n (.store 9 (.t 2) (.t 21)),o 3 (.mov (i 0))]) (.ret)))))
theorem ok155:j8 Tryz.prog 155 ir155 1 [.c 2 true 9,.t 3]=true:=by kernel_rfl
end Go.Proofs
end
section
namespace Go.Proofs
open Go.PW Go.PW.I
end Go.Proofs
end
section
namespace Go.Proofs
open Go.PW Go.PW.I
end Go.Proofs
end
section
namespace Go.Proofs
open Go.PW Go.PW.I
end Go.Proofs
end
section
namespace Go.Proofs
open Go.PW Go.PW.I
def ir134:PC:=.seq (.reg [o 2 (.mov F)]) (.seq (.seq (.reg [m 4 0,o 5 (.lens (.t 4)),o 6 (.call 129 [.t 5,.k (.val (.int .i64 1)),.k (.val (.int .i64 24))]),o 7 (.un .not
 (.t 6))]) (.cond (.t 7) (.seq (.reg [o 2 (.mov F)]) (.ret)) (.skip))) (.seq (.seq (.reg [o 3 (.mov (i 0))]) (.block 0 (.loop (.ghost (.seq (.seq (.reg [m 8 3,m 9 0,o 10 (.lens
 (.t 9)),o 11 (.bin .lss (.t 8) (.t 10))]) (.cond (.t 11) (.skip) (.exit 0))) (.seq (.block 1 (.seq (.reg [m 14 0,m 15 3,o 16 (.idx (.t 14) (.t 15)),o 17 (.bin .lss (.t 16) (.k
 (.val (.int .u8 97)))),m 18 17,g 19 18 false (.mov (.t 0)),g 20 18 false (.mov (.t 3)),g 21 18 false (.idx (.t 19) (.t 20)),g 22 18 false (.bin .gtr (.t 21) (.k (.val (.int
 .u8 122)))),o 23 (.pick (.t 18) T (.t 22)),m 24 23,g 25 24 true (.mov (.t 0)),g 26 24 true (.mov (.t 3)),g 27 24 true (.idx (.t 25) (.t 26)),g 28 24 true (.bin .neq (.t 27)
 (.k (.val (.int .u8 45)))),g 29 24 true (.mov (.t 28)),g 30 29 false (.mov (.t 3)),g 31 29 false (.bin .eql (.t 30) (i 0)),g 32 24 true (.pick (.t 29) T (.t 31)),o 33 (.pick
 (.t 24) (.t 32) F)]) (.cond (.t 33) (.seq (.reg [o 2 (.mov F)]) (.ret)) (.skip)))) (.reg [m 12 3,o 13 (.bin .add (.t 12) (i 1)),m 3 13]))))))) (.seq (.reg [o 2 (.mov T)])
 (.ret))))
theorem ok134:j8 Tryz.prog 134 ir134 1 [.t 2]=true:=by kernel_rfl
def ir192:PC:=.seq (.reg [o 4 (.mov F)]) (.seq (.seq (.reg [o 5 (.mov (i 0))]) (.block 0 (.loop (.ghost (.seq (.seq (.reg [m 6 5,m 7 0,o 8 (.len (.t 7)),o 9 (.bin .lss (.t 6)
 (.t 8))]) (.cond (.t 9) (.skip) (.exit 0))) (.seq (.block 1 (.seq (.reg [m 12 0,m 13 5,o 14 (.iaddr 1 (.t 12) (.t 13)),l 15 14,m 16 1,o 17 (.bin .eql (.t 15) (.t 16))]) (.cond
 (.t 17) (.seq (.reg [o 4 (.mov T)]) (.ret)) (.skip)))) (.reg [m 10 5,o 11 (.bin .add (.t 10) (i 1)),m 5 11]))))))) (.seq (.reg [o 4 (.mov F)]) (.ret)))
theorem ok192:j8 Tryz.prog 192 ir192 2 [.t 4]=true:=by kernel_rfl
end Go.Proofs
end
section
namespace Go.Proofs
open Go.PW Go.PW.I
def ir73:PC:=.seq (.reg [o 4 (.mov F)]) (.seq (.seq (.reg [m 6 0,o 7 (.len (.t 6)),m 8 1,o 9 (.len (.t 8)),o 10 (.bin .neq (.t 7) (.t 9))]) (.cond (.t 10) (.seq (.reg [o 4
 (.mov F)]) (.ret)) (.skip))) (.seq (.seq (.reg [o 5 (.mov (i 0))]) (.block 0 (.loop (.ghost (.seq (.seq (.reg [m 11 5,m 12 0,o 13 (.len (.t 12)),o 14 (.bin .lss (.t 11) (.t
 13))]) (.cond (.t 14) (.skip) (.exit 0))) (.seq (.block 1 (.seq (.draw [m 17 0,m 18 5,o 19 (.iaddr 1 (.t 17) (.t 18)),l 20 19,m 21 1,m 22 5,o 23 (.iaddr 1 (.t 21) (.t 22)),l
 24 23] [o 25 (.bin .neq (.t 20) (.t 24))]) (.cond (.t 25) (.seq (.reg [o 4 (.mov F)]) (.ret)) (.skip)))) (.reg [m 15 5,o 16 (.bin .add (.t 15) (i 1)),m 5 16]))))))) (.seq (.reg
 [o 4 (.mov T)]) (.ret))))
theorem ok73:j8 Tryz.prog 73 ir73 2 [.t 4]=true:=by kernel_rfl
end Go.Proofs
end
section
namespace Go.Proofs
open Go.PW Go.PW.I
def ir89:PC:=.seq (.reg [o 2 (.mov F)]) (.seq (.seq (.reg [m 4 0,o 5 (.lens (.t 4)),o 6 (.mn (.t 5) (i 25)),o 7 (.mov (i 0))]) (.block 0 (.loop (.ghost (.seq (.reg [o 8 (.bin
 .lss (.t 7) (.t 6))]) (.seq (.cond (.t 8) (.skip) (.exit 0)) (.seq (.block 1 (.seq (.reg [m 9 7,m 3 9]) (.seq (.reg [m 10 0,m 11 3,o 12 (.idx (.t 10) (.t 11)),o 13 (.call 138
 [.t 12]),o 14 (.un .not (.t 13)),m 15 14,g 16 15 true (.mov (.t 0)),g 17 15 true (.mov (.t 3)),g 18 15 true (.idx (.t 16) (.t 17)),g 19 15 true (.bin .neq (.t 18) (.k (.val
 (.int .u8 45)))),g 20 15 true (.mov (.t 19)),g 21 20 false (.mov (.t 3)),g 22 20 false (.bin .eql (.t 21) (i 0)),g 23 15 true (.pick (.t 20) T (.t 22)),o 24 (.pick (.t 15) (.t
 23) F)]) (.cond (.t 24) (.seq (.reg [o 2 (.mov F)]) (.ret)) (.skip))))) (.reg [o 25 (.bin .add (.t 7) (i 1)),m 7 25])))))))) (.seq (.reg [m 26 0,o 27 (.lens (.t 26)),o 28 (.call
 106 [.t 27,.k (.val (.int .i64 1)),.k (.val (.int .i64 24))]),m 2 28]) (.ret)))
theorem ok89:j8 Tryz.prog 89 ir89 1 [.t 2]=true:=by kernel_rfl
end Go.Proofs
end
section
namespace Go.Proofs
open Go.PW Go.PW.I
end Go.Proofs
end
section
namespace Go.Proofs
open Go.PW Go.PW.I
def ir63:PC:=.seq (.reg [o 2 (.mov (z #[]))]) (.seq (.seq (.reg [m 4 0,o 5 (.bin .leq (.t 4) (i 0))]) (.cond (.t 5) (.seq (.reg [o 2 (.mov (z #[109,48]))]) (.ret)) (.skip)))
 (.seq (.reg [o 3 (.mov (z #[]))]) (.seq (.block 0 (.loop (.ghost (.seq (.seq (.reg [m 6 0,o 7 (.bin .gtr (.t 6) (i 0))]) (.cond (.t 7) (.skip) (.exit 0))) (.block 1 (.seq (.reg [m
 8 0,o 9 (.bin .rem (.t 8) (i 10)),o 10 (.bin .add (i 48) (.t 9)),o 11 (.conv .u8 (.t 10)),o 12 (.lit 5 1 [.t 11]),o 13 (.tostr (.t 12)),m 14 3,o 15 (.bin .add (.t 13) (.t
 14)),m 3 15]) (.reg [m 16 0,o 17 (.bin .quo (.t 16) (i 10)),m 0 17]))))))) (.seq (.reg [m 18 3,o 19 (.bin .add (z #[109]) (.t 18)),m 2 19]) (.ret)))))
theorem ok63:j8 Tryz.prog 63 ir63 1 [.t 2]=true:=by kernel_rfl
def ir74_l6:PC:=.seq (.seq (.reg [m 6 5,m 7 0,o 8 (.len (.t 7)),o 9 (.bin .lss (.t 6) (.t 8))]) (.cond (.t 9) (.skip) (.exit 0))) (.seq (.block 1 (.seq (.reg [m 12 0,m 13 5,
 m 14 1,o 15 (.call 63 [.t 14]),o 16 (.iaddr 1 (.t 12) (.t 13)),n (.store 1 (.t 16) (.t 15))]) (.reg [m 17 1,o 18 (.bin .add (.t 17) (i 1)),m 1 18]))) (.reg [m 10 5,o 11 (.bin
 .add (.t 10) (i 1)),m 5 11]))
def ir74:PC:=.seq (.reg [o 4 (.mov (i 0))]) (.seq (.seq (.reg [o 5 (.mov (i 0))]) (.block 0 (.loop (.ghost ir74_l6)))) (.seq (.reg [m 19 1,m 4 19]) (.ret)))
theorem ok74:j8 Tryz.prog 74 ir74 2 [.t 4]=true:=by kernel_rfl
def ir76_l6:PC:=.seq (.seq (.reg [m 6 5,m 7 0,o 8 (.len (.t 7)),o 9 (.bin .lss (.t 6) (.t 8))]) (.cond (.t 9) (.skip) (.exit 0))) (.seq (.block 1 (.seq (.seq (.draw [m 12 0,
 m 13 5,o 14 (.iaddr 1 (.t 12) (.t 13)),l 15 14,m 16 1,o 17 (.call 63 [.t 16])] [o 18 (.bin .neq (.t 15) (.t 17))]) (.cond (.t 18) (.seq (.reg [o 4 (.mov (i (-1)))]) (.ret))
 (.skip))) (.reg [m 19 1,o 20 (.bin .add (.t 19) (i 1)),m 1 20]))) (.reg [m 10 5,o 11 (.bin .add (.t 10) (i 1)),m 5 11]))
def ir76:PC:=.seq (.reg [o 4 (.mov (i 0))]) (.seq (.seq (.reg [o 5 (.mov (i 0))]) (.block 0 (.loop (.ghost ir76_l6)))) (.seq (.reg [m 21 1,m 4 21]) (.ret)))
theorem ok76:j8 Tryz.prog 76 ir76 2 [.t 4]=true:=by kernel_rfl
end Go.Proofs
end
section
namespace Go.Proofs
open Go.PW Go.PW.I
def ir169:PC:=.seq (.reg [o 2 (.alloc [.val (.int .i64 0),.val (.int .i64 0),.val (.str ⟨#[]⟩),.emp 1,.emp 5])]) (.seq (.reg [m 3 0,o 4 (.build [.val (.int .i64 0),.val
 (.int .i64 0),.val (.str ⟨#[]⟩),.emp 1,.emp 5] [(0,1,.k (.val (.int .i64 3))),(1,1,.t 3)]),n (.store 5 (.t 2) (.t 4))]) (.ret))
theorem ok169:j8 Tryz.prog 169 ir169 1 [.c 2 true 5]=true:=by kernel_rfl
def ir167:PC:=.seq (.reg [o 2 (.alloc [.val (.int .i64 0),.val (.int .i64 0),.val (.str ⟨#[]⟩),.emp 1,.emp 5])]) (.seq (.reg [m 3 0,o 4 (.build [.val (.int .i64 0),.val
 (.int .i64 0),.val (.str ⟨#[]⟩),.emp 1,.emp 5] [(0,1,.k (.val (.int .i64 4))),(2,1,.t 3)]),n (.store 5 (.t 2) (.t 4))]) (.ret))
theorem ok167:j8 Tryz.prog 167 ir167 1 [.c 2 true 5]=true:=by kernel_rfl
def ir172:PC:=.seq (.reg [o 2 (.alloc [.val (.int .i64 0),.val (.int .i64 0),.val (.str ⟨#[]⟩),.emp 1,.emp 5])]) (.seq (.reg [m 3 0,o 4 (.build [.val (.int .i64 0),.val
 (.int .i64 0),.val (.str ⟨#[]⟩),.emp 1,.emp 5] [(0,1,.k (.val (.int .i64 4))),(2,1,.t 3)]),n (.store 5 (.t 2) (.t 4))]) (.ret))
theorem ok172:j8 Tryz.prog 172 ir172 1 [.c 2 true 5]=true:=by kernel_rfl
def ir174:PC:=.seq (.reg [o 2 (.alloc [.val (.int .i64 0),.val (.int .i64 0),.val (.str ⟨#[]⟩),.emp 1,.emp 5])]) (.seq (.reg [m 3 0,o 4 (.build [.val (.int .i64 0),.val
 (.int .i64 0),.val (.str ⟨#[]⟩),.emp 1,.emp 5] [(0,1,.k (.val (.int .i64 3))),(1,1,.t 3)]),n (.store 5 (.t 2) (.t 4))]) (.ret))
theorem ok174:j8 Tryz.prog 174 ir174 1 [.c 2 true 5]=true:=by kernel_rfl
end Go.Proofs
end
section
namespace Go.Proofs
open Go.PW Go.PW.I
end Go.Proofs
end
section
namespace Go.Proofs
open Go.PW Go.PW.I
def ir110:PC:=.seq (.reg [o 1 (.box (.t 0)),o 2 (.mov F)]) (.seq (.reg [o 5 (.faddr 0 (.t 1)),l 6 5,o 7 (.faddr 1 (.t 1)),l 8 7,o 9 (.faddr 2 (.t 1)),l 10 9,o 11 (.faddr
 3 (.t 1)),l 12 11,o 13 (.lit 9 1 [.t 6,.t 8,.t 10,.t 12]),m 3 13]) (.seq (.seq (.reg [o 4 (.mov (i 0))]) (.block 0 (.loop (.ghost (.seq (.seq (.reg [m 14 4,m 15 3,o 16
 (.len (.t 15)),o 17 (.bin .lss (.t 14) (.t 16))]) (.cond (.t 17) (.skip) (.exit 0))) (.seq (.block 1 (.seq (.reg [m 20 3,m 21 4,o 22 (.iaddr 1 (.t 20) (.t 21)),l 23 22,o 24
 (.lens (.t 23)),o 25 (.bin .gtr (.t 24) (i 100))]) (.cond (.t 25) (.seq (.reg [o 2 (.mov F)]) (.ret)) (.skip)))) (.reg [m 18 4,o 19 (.bin .add (.t 18) (i 1)),m 4 19])))))))
 (.seq (.reg [o 26 (.faddr 4 (.t 1)),l 27 26,o 28 (.call 134 [.t 27]),m 29 28,g 30 29 true (.faddr 5 (.t 1)),g 31 29 true (.load false 1 (.t 30)),g 32 29 true (.lens (.t 31)),
 g 33 29 true (.bin .leq (.t 32) (i 200)),o 34 (.pick (.t 29) (.t 33) F),m 35 34,g 36 35 true (.faddr 6 (.t 1)),g 37 35 true (.load false 1 (.t 36)),g 38 35 true (.call 129 [.t
 37,.k (.val (.int .i64 0)),.k (.val (.int .i64 9999))]),o 39 (.pick (.t 35) (.t 38) F),m 40 39,g 41 40 true (.faddr 7 (.t 1)),g 42 40 true (.load false 1 (.t 41)),g 43 40
 true (.call 129 [.t 42,.k (.val (.int .i64 0)),.k (.val (.int .i64 9999))]),o 44 (.pick (.t 40) (.t 43) F),m 2 44]) (.ret))))
theorem ok110:j8 Tryz.prog 110 ir110 1 [.t 2]=true:=by kernel_rfl
def ir217:PC:=.seq (.reg [o 2 (.mov (z #[]))]) (.seq (.reg [m 6 0,o 7 (.call 199 [.t 6]),m 5 7,o 8 (.ext 0 (.t 5)),o 9 (.ext 1 (.t 5)),o 3 (.alloc [.val (.str ⟨#[]⟩),.val
 (.str ⟨#[]⟩),.val (.str ⟨#[]⟩),.val (.int .i64 0),.val (.str ⟨#[]⟩),.val (.str ⟨#[]⟩),.val (.str ⟨#[]⟩),.val (.bool false),.val (.bool false)]),n (.store 9 (.t 3) (.t 8)),
 m 4 9]) (.seq (.seq (.reg [m 10 4,o 11 (.un .not (.t 10))]) (.cond (.t 11) (.seq (.reg [o 2 (.mov (z #[]))]) (.ret)) (.skip))) (.seq (.seq (.reg [o 12 (.faddr 0 (.t 3)),l 13 12,
 o 14 (.call 200 [.t 13]),o 15 (.un .not (.t 14))]) (.cond (.t 15) (.seq (.reg [o 16 (.faddr 0 (.t 3)),l 17 16,m 2 17]) (.ret)) (.skip))) (.seq (.reg [o 18 (.load true 9 (.t 3)),
 o 19 (.call 242 [.t 18]),m 2 19]) (.ret)))))
theorem ok217:j8 Tryz.prog 217 ir217 1 [.t 2]=true:=by kernel_rfl
def ir168:PC:=.seq (.reg [o 1 (.box (.t 0)),o 2 (.mov (z #[]))]) (.seq (.seq (.reg [o 3 (.lit 9 1 [.k (.val (.str ⟨#[105,110,108,105,110,101]⟩)),.k (.val (.str ⟨#[101,
 118,97,108]⟩)),.k (.val (.str ⟨#[115,101,108,102]⟩))]),o 4 (.faddr 2 (.t 1)),l 5 4,o 6 (.call 192 [.t 3,.t 5])]) (.cond (.t 6) (.seq (.reg [o 7 (.faddr 2 (.t 1)),l 8 7,
 m 2 8]) (.ret)) (.skip))) (.seq (.seq (.reg [o 9 (.faddr 8 (.t 1)),l 10 9]) (.cond (.t 10) (.seq (.reg [o 11 (.faddr 2 (.t 1)),l 12 11,o 13 (.call 217 [.t 12]),m 2 13]) (.ret))
 (.skip))) (.seq (.reg [o 14 (.faddr 2 (.t 1)),l 15 14,o 16 (.call 170 [.t 15]),m 2 16]) (.ret))))
theorem ok168:j8 Tryz.prog 168 ir168 1 [.t 2]=true:=by kernel_rfl
def ir171:PC:=.seq (.reg [o 1 (.box (.t 0)),o 2 (.mov (z #[]))]) (.seq (.reg [o 8 (.faddr 3 (.t 1)),l 9 8,o 10 (.call 199 [.t 9]),m 7 10,o 11 (.ext 0 (.t 7)),o 12 (.ext 1
 (.t 7)),o 3 (.alloc [.val (.str ⟨#[]⟩),.val (.str ⟨#[]⟩),.val (.str ⟨#[]⟩),.val (.int .i64 0),.val (.str ⟨#[]⟩),.val (.str ⟨#[]⟩),.val (.str ⟨#[]⟩),.val (.bool false),.val
 (.bool false)]),n (.store 9 (.t 3) (.t 11)),m 4 12]) (.seq (.reg [o 14 (.faddr 0 (.t 1)),l 15 14,o 16 (.call 199 [.t 15]),m 13 16,o 17 (.ext 0 (.t 13)),o 18 (.ext 1 (.t
 13)),o 5 (.alloc [.val (.str ⟨#[]⟩),.val (.str ⟨#[]⟩),.val (.str ⟨#[]⟩),.val (.int .i64 0),.val (.str ⟨#[]⟩),.val (.str ⟨#[]⟩),.val (.str ⟨#[]⟩),.val (.bool false),.val
 (.bool false)]),n (.store 9 (.t 5) (.t 17)),m 6 18]) (.seq (.seq (.reg [m 19 4,o 20 (.un .not (.t 19)),m 21 20,g 22 21 false (.mov (.t 6)),g 23 21 false (.un .not (.t 22)),o
 24 (.pick (.t 21) T (.t 23)),m 25 24,g 26 25 false (.load true 9 (.t 3)),g 27 25 false (.load true 9 (.t 5)),g 28 25 false (.call 219 [.t 26,.t 27]),g 29 25 false (.un .not
 (.t 28)),o 30 (.pick (.t 25) T (.t 29))]) (.cond (.t 30) (.seq (.reg [o 31 (.faddr 3 (.t 1)),l 32 31,o 33 (.call 217 [.t 32]),m 2 33]) (.ret)) (.skip))) (.seq (.reg [o 34
 (.load true 9 (.t 3)),o 35 (.call 218 [.t 34]),m 2 35]) (.ret)))))
theorem ok171:j8 Tryz.prog 171 ir171 1 [.t 2]=true:=by kernel_rfl
def ir219:PC:=.seq (.reg [o 2 (.box (.t 0)),o 3 (.box (.t 1)),o 4 (.mov F)]) (.seq (.reg [o 5 (.faddr 0 (.t 2)),l 6 5,o 7 (.call 200 [.t 6]),m 8 7,g 9 8 true (.faddr 0 (.t
 2)),g 10 8 true (.load false 1 (.t 9)),g 11 8 true (.faddr 0 (.t 3)),g 12 8 true (.load false 1 (.t 11)),g 13 8 true (.bin .eql (.t 10) (.t 12)),o 14 (.pick (.t 8) (.t 13) F),
 m 15 14,g 16 15 true (.faddr 2 (.t 2)),g 17 15 true (.load false 1 (.t 16)),g 18 15 true (.faddr 2 (.t 3)),g 19 15 true (.load false 1 (.t 18)),g 20 15 true (.bin .eql (.t 17)
 (.t 19)),o 21 (.pick (.t 15) (.t 20) F),m 22 21,g 23 22 true (.faddr 3 (.t 2)),g 24 22 true (.load false 1 (.t 23)),g 25 22 true (.faddr 3 (.t 3)),g 26 22 true (.load false 1
 (.t 25)),g 27 22 true (.bin .eql (.t 24) (.t 26)),o 28 (.pick (.t 22) (.t 27) F),m 4 28]) (.ret))
theorem ok219:j8 Tryz.prog 219 ir219 2 [.t 4]=true:=by kernel_rfl
def ir218:PC:=.seq (.reg [o 1 (.box (.t 0)),o 2 (.mov (z #[]))]) (.seq (.seq (.reg [o 3 (.faddr 0 (.t 1)),l 4 3,o 5 (.call 200 [.t 4]),o 6 (.un .not (.t 5))]) (.cond (.t 6)
 (.seq (.reg [o 7 (.faddr 0 (.t 1)),l 8 7,m 2 8]) (.ret)) (.skip))) (.seq (.reg [o 9 (.faddr 1 (.t 1)),n (.store 1 (.t 9) (z #[]))]) (.seq (.reg [o 10 (.faddr 8 (.t 1)),n
 (.store 1 (.t 10) F)]) (.seq (.reg [o 11 (.faddr 6 (.t 1)),n (.store 1 (.t 11) (z #[]))]) (.seq (.reg [o 12 (.load true 9 (.t 1)),o 13 (.call 201 [.t 12]),m 2 13]) (.ret))))))
theorem ok218:j8 Tryz.prog 218 ir218 1 [.t 2]=true:=by kernel_rfl
def ir170:PC:=.seq (.reg [o 2 (.mov (z #[]))]) (.seq (.reg [m 6 0,o 7 (.call 199 [.t 6]),m 5 7,o 8 (.ext 0 (.t 5)),o 9 (.ext 1 (.t 5)),o 3 (.alloc [.val (.str ⟨#[]⟩),.val
 (.str ⟨#[]⟩),.val (.str ⟨#[]⟩),.val (.int .i64 0),.val (.str ⟨#[]⟩),.val (.str ⟨#[]⟩),.val (.str ⟨#[]⟩),.val (.bool false),.val (.bool false)]),n (.store 9 (.t 3) (.t 8)),
 m 4 9]) (.seq (.seq (.reg [m 10 4,o 11 (.un .not (.t 10))]) (.cond (.t 11) (.seq (.reg [o 2 (.mov (z #[]))]) (.ret)) (.skip))) (.seq (.reg [o 12 (.load true 9 (.t 3)),o 13 (.call
 218 [.t 12]),m 2 13]) (.ret))))
theorem ok170:j8 Tryz.prog 170 ir170 1 [.t 2]=true:=by kernel_rfl
def ir111_from4:PC:=.seq (.draw [o 14 (.load true 9 (.t 1)),o 15 (.call 168 [.t 14]),o 16 (.call 167 [.t 15]),o 17 (.faddr 7 (.t 1)),l 18 17,o 19 (.call 169 [.t 18]),o 20
 (.faddr 0 (.t 1)),l 21 20,o 22 (.call 170 [.t 21]),o 23 (.call 167 [.t 22]),o 24 (.faddr 4 (.t 1)),l 25 24,o 26 (.call 167 [.t 25]),o 27 (.faddr 6 (.t 1)),l 28 27,o 29
 (.call 169 [.t 28]),o 30 (.faddr 1 (.t 1)),l 31 30,o 32 (.call 170 [.t 31]),o 33 (.call 167 [.t 32]),m 34 4,o 35 (.call 167 [.t 34]),o 36 (.load true 9 (.t 1)),o 37 (.call
 171 [.t 36]),o 38 (.call 167 [.t 37])] [o 39 (.lit 81 5 [.t 16,.t 19,.t 23,.t 26,.t 29,.t 33,.t 35,.t 38]),o 40 (.faddr 4 (.t 3)),n (.store 1 (.t 40) (.t 39))]) (.seq
 (.reg [o 41 (.load true 5 (.t 3)),n (.store 5 (.t 2) (.t 41))]) (.ret))
def ir111:PC:=.seq (.reg [o 1 (.box (.t 0)),o 2 (.alloc [.val (.int .i64 0),.val (.int .i64 0),.val (.str ⟨#[]⟩),.emp 1,.emp 5])]) (.seq (.reg [o 5 (.lit 9 1 [.k (.val
 (.str ⟨#[98,108,111,99,107,101,100,85,82,76]⟩)),.k (.val (.str ⟨#[99,111,108,117,109,110,78,117,109,98,101,114]⟩)),.k (.val (.str ⟨#[100,111,99,117,109,
 101,110,116,85,82,76]⟩)),.k (.val (.str ⟨#[101,102,102,101,99,116,105,118,101,68,105,114,101,99,116,105,118,101]⟩)),.k (.val (.str ⟨#[108,105,110,101,
 78,117,109,98,101,114]⟩)),.k (.val (.str ⟨#[114,101,102,101,114,114,101,114]⟩)),.k (.val (.str ⟨#[115,97,109,112,108,101]⟩)),.k (.val (.str ⟨#[115,111,117,
 114,99,101,70,105,108,101]⟩))]),o 6 (.build [.val (.int .i64 0),.val (.int .i64 0),.val (.str ⟨#[]⟩),.emp 1,.emp 5] [(0,1,.k (.val (.int .i64 6))),(3,1,.t 5)]),o 3
 (.alloc [.val (.int .i64 0),.val (.int .i64 0),.val (.str ⟨#[]⟩),.emp 1,.emp 5]),n (.store 5 (.t 3) (.t 6))]) (.seq (.reg [o 7 (.faddr 5 (.t 1)),l 8 7,m 4 8]) (.seq (.seq
 (.reg [m 9 4,o 10 (.lens (.t 9)),o 11 (.bin .gtr (.t 10) (i 40))]) (.cond (.t 11) (.reg [m 12 4,o 13 (.slc 0 (.t 12) none (some (i 40))),m 4 13]) (.skip))) (ir111_from4))))
theorem ok111:j8 Tryz.prog 111 ir111 1 [.c 2 true 5]=true:=by kernel_rfl
def ir112:PC:=.seq (.reg [o 1 (.box (.t 0)),o 2 (.mov F)]) (.seq (.reg [o 3 (.faddr 0 (.t 1)),l 4 3,o 5 (.lens (.t 4)),o 6 (.faddr 1 (.t 1)),l 7 6,o 8 (.lens (.t 7)),o 9
 (.faddr 2 (.t 1)),l 10 9,o 11 (.lens (.t 10)),o 12 (.faddr 3 (.t 1)),l 13 12,o 14 (.lens (.t 13)),o 15 (.mx4 (.t 5) (.t 8) (.t 11) (.t 14)),o 16 (.bin .leq (.t 15) (i 100)),
 m 17 16,g 18 17 true (.faddr 4 (.t 1)),g 19 17 true (.load false 1 (.t 18)),g 20 17 true (.call 89 [.t 19]),o 21 (.pick (.t 17) (.t 20) F),m 22 21,g 23 22 true (.faddr 5 (.t
 1)),g 24 22 true (.load false 1 (.t 23)),g 25 22 true (.lens (.t 24)),g 26 22 true (.bin .leq (.t 25) (i 200)),o 27 (.pick (.t 22) (.t 26) F),m 28 27,g 29 28 true (.faddr 6
 (.t 1)),g 30 28 true (.load false 1 (.t 29)),g 31 28 true (.call 106 [.t 30,.k (.val (.int .i64 0)),.k (.val (.int .i64 9999))]),o 32 (.pick (.t 28) (.t 31) F),m 33 32,g 34
 33 true (.faddr 7 (.t 1)),g 35 33 true (.load false 1 (.t 34)),g 36 33 true (.call 106 [.t 35,.k (.val (.int .i64 0)),.k (.val (.int .i64 9999))]),o 37 (.pick (.t 33) (.t 36)
 F),m 2 37]) (.ret))
theorem ok112:j8 Tryz.prog 112 ir112 1 [.t 2]=true:=by kernel_rfl
def ir220:PC:=.seq (.reg [o 2 (.mov (z #[]))]) (.seq (.reg [m 6 0,o 7 (.call 208 [.t 6]),m 5 7,o 8 (.ext 0 (.t 5)),o 9 (.ext 1 (.t 5)),o 3 (.alloc [.val (.str ⟨#[]⟩),.val
 (.str ⟨#[]⟩),.val (.str ⟨#[]⟩),.val (.int .i64 0),.val (.str ⟨#[]⟩),.val (.str ⟨#[]⟩),.val (.str ⟨#[]⟩),.val (.bool false),.val (.bool false)]),n (.store 9 (.t 3) (.t 8)),
 m 4 9]) (.seq (.block 0 (.seq (.reg [m 11 4,o 12 (.un .not (.t 11)),m 10 12]) (.cond (.t 10) (.seq (.reg [o 2 (.mov (z #[]))]) (.ret)) (.seq (.reg [o 14 (.load true 9 (.t 3)),o
 15 (.call 156 [.t 14]),m 13 15]) (.cond (.t 13) (.seq (.reg [o 16 (.load true 9 (.t 3)),o 17 (.call 254 [.t 16]),m 2 17]) (.ret)) (.skip)))))) (.seq (.reg [o 18 (.faddr 0 (.t
 3)),l 19 18,m 2 19]) (.ret))))
theorem ok220:j8 Tryz.prog 220 ir220 1 [.t 2]=true:=by kernel_rfl
def ir173:PC:=.seq (.reg [o 1 (.box (.t 0)),o 2 (.mov (z #[]))]) (.seq (.block 0 (.seq (.reg [o 4 (.faddr 2 (.t 1)),l 5 4,o 6 (.bin .eql (.t 5) (z #[105,110,108,105,110,
 101])),m 7 6,g 8 7 false (.faddr 2 (.t 1)),g 9 7 false (.load false 1 (.t 8)),g 10 7 false (.bin .eql (.t 9) (z #[101,118,97,108])),o 11 (.pick (.t 7) T (.t 10)),m 12 11,
 g 13 12 false (.faddr 2 (.t 1)),g 14 12 false (.load false 1 (.t 13)),g 15 12 false (.bin .eql (.t 14) (z #[115,101,108,102])),o 16 (.pick (.t 12) T (.t 15)),m 3 16]) (.cond
 (.t 3) (.seq (.reg [o 17 (.faddr 2 (.t 1)),l 18 17,m 2 18]) (.ret)) (.seq (.reg [o 20 (.faddr 8 (.t 1)),l 21 20,m 19 21]) (.cond (.t 19) (.seq (.reg [o 22 (.faddr 2 (.t 1)),l
 23 22,o 24 (.call 220 [.t 23]),m 2 24]) (.ret)) (.skip)))))) (.seq (.reg [o 25 (.faddr 2 (.t 1)),l 26 25,o 27 (.call 175 [.t 26]),m 2 27]) (.ret)))
theorem ok173:j8 Tryz.prog 173 ir173 1 [.t 2]=true:=by kernel_rfl
def ir176:PC:=.seq (.reg [o 1 (.box (.t 0)),o 2 (.mov (z #[]))]) (.seq (.reg [o 8 (.faddr 3 (.t 1)),l 9 8,o 10 (.call 208 [.t 9]),m 7 10,o 11 (.ext 0 (.t 7)),o 12 (.ext 1
 (.t 7)),o 3 (.alloc [.val (.str ⟨#[]⟩),.val (.str ⟨#[]⟩),.val (.str ⟨#[]⟩),.val (.int .i64 0),.val (.str ⟨#[]⟩),.val (.str ⟨#[]⟩),.val (.str ⟨#[]⟩),.val (.bool false),.val
 (.bool false)]),n (.store 9 (.t 3) (.t 11)),m 4 12]) (.seq (.reg [o 14 (.faddr 0 (.t 1)),l 15 14,o 16 (.call 208 [.t 15]),m 13 16,o 17 (.ext 0 (.t 13)),o 18 (.ext 1 (.t
 13)),o 5 (.alloc [.val (.str ⟨#[]⟩),.val (.str ⟨#[]⟩),.val (.str ⟨#[]⟩),.val (.int .i64 0),.val (.str ⟨#[]⟩),.val (.str ⟨#[]⟩),.val (.str ⟨#[]⟩),.val (.bool false),.val
 (.bool false)]),n (.store 9 (.t 5) (.t 17)),m 6 18]) (.seq (.seq (.reg [m 19 4,m 20 19,g 21 20 true (.mov (.t 6)),o 22 (.pick (.t 20) (.t 21) F),m 23 22,g 24 23 true (.load
 true 9 (.t 3)),g 25 23 true (.load true 9 (.t 5)),g 26 23 true (.call 222 [.t 24,.t 25]),o 27 (.pick (.t 23) (.t 26) F)]) (.cond (.t 27) (.seq (.reg [o 28 (.load true 9 (.t
 3)),o 29 (.call 221 [.t 28]),m 2 29]) (.ret)) (.skip))) (.seq (.reg [o 30 (.faddr 3 (.t 1)),l 31 30,o 32 (.call 220 [.t 31]),m 2 32]) (.ret)))))
theorem ok176:j8 Tryz.prog 176 ir176 1 [.t 2]=true:=by kernel_rfl
def ir222:PC:=.seq (.reg [o 2 (.box (.t 0)),o 3 (.box (.t 1)),o 4 (.mov F)]) (.seq (.draw [o 5 (.load true 9 (.t 2)),o 6 (.call 247 [.t 5]),m 7 6,g 8 7 true (.load true 9
 (.t 3)),g 9 7 true (.call 247 [.t 8]),o 10 (.pick (.t 7) (.t 9) F),m 11 10,g 12 11 true (.load true 9 (.t 2)),g 13 11 true (.call 156 [.t 12]),o 14 (.pick (.t 11) (.t 13) F),
 m 15 14,g 16 15 true (.load true 9 (.t 3)),g 17 15 true (.call 156 [.t 16]),o 18 (.pick (.t 15) (.t 17) F),m 19 18,g 20 19 true (.load true 9 (.t 2)),g 21 19 true (.call 254
 [.t 20]),g 22 19 true (.load true 9 (.t 3)),g 23 19 true (.call 254 [.t 22]),g 24 19 true (.bin .eql (.t 21) (.t 23)),o 25 (.pick (.t 19) (.t 24) F)] [m 4 25]) (.ret))
theorem ok222:j8 Tryz.prog 222 ir222 2 [.t 4]=true:=by kernel_rfl
def ir221:PC:=.seq (.reg [o 1 (.box (.t 0)),o 2 (.mov (z #[]))]) (.seq (.seq (.reg [o 3 (.load true 9 (.t 1)),o 4 (.call 156 [.t 3]),o 5 (.un .not (.t 4))]) (.cond (.t 5)
 (.seq (.reg [o 6 (.faddr 0 (.t 1)),l 7 6,m 2 7]) (.ret)) (.skip))) (.seq (.reg [o 8 (.faddr 1 (.t 1)),n (.store 1 (.t 8) (z #[])),o 9 (.faddr 6 (.t 1)),n (.store 1 (.t 9) (z
 #[])),o 10 (.faddr 8 (.t 1)),n (.store 1 (.t 10) F)]) (.seq (.reg [o 11 (.load true 9 (.t 1)),o 12 (.call 157 [.t 11]),m 2 12]) (.ret))))
theorem ok221:j8 Tryz.prog 221 ir221 1 [.t 2]=true:=by kernel_rfl
def ir254:PC:=.seq (.reg [o 1 (.box (.t 0)),o 2 (.mov (z #[]))]) (.seq (.reg [o 3 (.faddr 0 (.t 1)),l 4 3,o 5 (.faddr 2 (.t 1)),l 6 5,o 7 (.faddr 3 (.t 1)),l 8 7,o 9
 (.build [.val (.str ⟨#[]⟩),.val (.str ⟨#[]⟩),.val (.str ⟨#[]⟩),.val (.int .i64 0),.val (.str ⟨#[]⟩),.val (.str ⟨#[]⟩),.val (.str ⟨#[]⟩),.val (.bool false),.val (.bool
 false)] [(0,1,.t 4),(2,1,.t 6),(3,1,.t 8)]),o 10 (.call 157 [.t 9]),m 2 10]) (.ret))
theorem ok254:j8 Tryz.prog 254 ir254 1 [.t 2]=true:=by kernel_rfl
def ir175:PC:=.seq (.reg [o 2 (.mov (z #[]))]) (.seq (.reg [m 6 0,o 7 (.call 155 [.t 6]),m 5 7,o 8 (.ext 0 (.t 5)),o 9 (.ext 1 (.t 5)),o 3 (.alloc [.val (.str ⟨#[]⟩),.val
 (.str ⟨#[]⟩),.val (.str ⟨#[]⟩),.val (.int .i64 0),.val (.str ⟨#[]⟩),.val (.str ⟨#[]⟩),.val (.str ⟨#[]⟩),.val (.bool false),.val (.bool false)]),n (.store 9 (.t 3) (.t 8)),
 m 4 9]) (.seq (.seq (.reg [m 10 4,o 11 (.bin .neq (.t 10) (i 0))]) (.cond (.t 11) (.seq (.reg [o 2 (.mov (z #[]))]) (.ret)) (.skip))) (.seq (.reg [o 12 (.load true 9 (.t 3)),o 13
 (.call 221 [.t 12]),m 2 13]) (.ret))))
theorem ok175:j8 Tryz.prog 175 ir175 1 [.t 2]=true:=by kernel_rfl
def ir113:PC:=.seq (.reg [o 1 (.box (.t 0)),o 2 (.alloc [.val (.int .i64 0),.val (.int .i64 0),.val (.str ⟨#[]⟩),.emp 1,.emp 5])]) (.seq (.reg [o 4 (.faddr 5 (.t 1)),l 5
 4,o 6 (.faddr 5 (.t 1)),l 7 6,o 8 (.lens (.t 7)),o 9 (.mn (.t 8) (i 40)),o 10 (.slc 0 (.t 5) none (some (.t 9))),m 3 10]) (.seq (.mix (.early 1 (o 12 (.load true 9 (.t 1)))
 (.early 4 (o 15 (.faddr 7 (.t 1))) (.early 5 (l 16 15) (.early 7 (o 18 (.faddr 0 (.t 1))) (.early 8 (l 19 18) (.early 11 (o 22 (.faddr 4 (.t 1))) (.early 12 (l 23 22) (.early 14 (o
 25 (.faddr 6 (.t 1))) (.early 15 (l 26 25) (.early 17 (o 28 (.faddr 1 (.t 1))) (.early 18 (l 29 28) (.early 21 (m 32 3) (.early 23 (o 34 (.load true 9 (.t 1))) (.alt 0 (o 11 (.lit
 9 1 [.k (.val (.str ⟨#[98,108,111,99,107,101,100,85,82,76]⟩)),.k (.val (.str ⟨#[99,111,108,117,109,110,78,117,109,98,101,114]⟩)),.k (.val (.str ⟨#[100,111,
 99,117,109,101,110,116,85,82,76]⟩)),.k (.val (.str ⟨#[101,102,102,101,99,116,105,118,101,68,105,114,101,99,116,105,118,101]⟩)),.k (.val (.str ⟨#[108,
 105,110,101,78,117,109,98,101,114]⟩)),.k (.val (.str ⟨#[114,101,102,101,114,114,101,114]⟩)),.k (.val (.str ⟨#[115,97,109,112,108,101]⟩)),.k (.val (.str
 ⟨#[115,111,117,114,99,101,70,105,108,101]⟩))])) [1,4,5,7,8,11,12,14,15,17,18,21,23] (.step 2 (o 13 (.call 173 [.t 12])) [4,5,7,8,11,12,14,15,17,18,
 21,23] (.step 3 (o 14 (.call 172 [.t 13])) [4,5,7,8,11,12,14,15,17,18,21,23] (.step 6 (o 17 (.call 174 [.t 16])) [7,8,11,12,14,15,17,18,21,23] (.step 9 (o 20
 (.call 175 [.t 19])) [11,12,14,15,17,18,21,23] (.step 10 (o 21 (.call 172 [.t 20])) [11,12,14,15,17,18,21,23] (.step 13 (o 24 (.call 172 [.t 23])) [14,15,17,18,
 21,23] (.step 16 (o 27 (.call 174 [.t 26])) [17,18,21,23] (.step 19 (o 30 (.call 175 [.t 29])) [21,23] (.step 20 (o 31 (.call 172 [.t 30])) [21,23] (.step 22 (o 33 (.call 172
 [.t 32])) [23] (.step 24 (o 35 (.call 176 [.t 34])) [] (.step 25 (o 36 (.call 172 [.t 35])) [] (.step 26 (o 37 (.lit 81 5 [.t 14,.t 17,.t 21,.t 24,.t 27,.t 31,.t 33,.t 36]))
 [] (.early 27 (o 38 (.build [.val (.int .i64 0),.val (.int .i64 0),.val (.str ⟨#[]⟩),.emp 1,.emp 5] [(0,1,.k (.val (.int .i64 6))),(3,1,.t 11),(4,1,.t 37)])) (.step 28
 (n (.store 5 (.t 2) (.t 38))) [] .done))))))))))))))) (.alt 2 (o 13 (.call 173 [.t 12])) [4,5,7,8,11,12,14,15,17,18,21,23] (.alt 0 (o 11 (.lit 9 1 [.k (.val (.str ⟨#[98,
 108,111,99,107,101,100,85,82,76]⟩)),.k (.val (.str ⟨#[99,111,108,117,109,110,78,117,109,98,101,114]⟩)),.k (.val (.str ⟨#[100,111,99,117,109,101,110,116,
 85,82,76]⟩)),.k (.val (.str ⟨#[101,102,102,101,99,116,105,118,101,68,105,114,101,99,116,105,118,101]⟩)),.k (.val (.str ⟨#[108,105,110,101,78,117,109,98,
 101,114]⟩)),.k (.val (.str ⟨#[114,101,102,101,114,114,101,114]⟩)),.k (.val (.str ⟨#[115,97,109,112,108,101]⟩)),.k (.val (.str ⟨#[115,111,117,114,99,101,70,
 105,108,101]⟩))])) [4,5,7,8,11,12,14,15,17,18,21,23] (.step 3 (o 14 (.call 172 [.t 13])) [4,5,7,8,11,12,14,15,17,18,21,23] (.step 6 (o 17 (.call 174 [.t
 16])) [7,8,11,12,14,15,17,18,21,23] (.step 9 (o 20 (.call 175 [.t 19])) [11,12,14,15,17,18,21,23] (.step 10 (o 21 (.call 172 [.t 20])) [11,12,14,15,17,18,21,
 23] (.step 13 (o 24 (.call 172 [.t 23])) [14,15,17,18,21,23] (.step 16 (o 27 (.call 174 [.t 26])) [17,18,21,23] (.step 19 (o 30 (.call 175 [.t 29])) [21,23] (.step 20 (o
 31 (.call 172 [.t 30])) [21,23] (.step 22 (o 33 (.call 172 [.t 32])) [23] (.step 24 (o 35 (.call 176 [.t 34])) [] (.step 25 (o 36 (.call 172 [.t 35])) [] (.step 26 (o 37 (.lit 81
 5 [.t 14,.t 17,.t 21,.t 24,.t 27,.t 31,.t 33,.t 36])) [] (.early 27 (o 38 (.build [.val (.int .i64 0),.val (.int .i64 0),.val (.str ⟨#[]⟩),.emp 1,.emp 5] [(0,1,.k
 (.val (.int .i64 6))),(3,1,.t 11),(4,1,.t 37)])) (.step 28 (n (.store 5 (.t 2) (.t 38))) [] .done)))))))))))))) (.alt 3 (o 14 (.call 172 [.t 13])) [4,5,7,8,11,12,14,
 15,17,18,21,23] (.alt 0 (o 11 (.lit 9 1 [.k (.val (.str ⟨#[98,108,111,99,107,101,100,85,82,76]⟩)),.k (.val (.str ⟨#[99,111,108,117,109,110,78,117,109,98,
 101,114]⟩)),.k (.val (.str ⟨#[100,111,99,117,109,101,110,116,85,82,76]⟩)),.k (.val (.str ⟨#[101,102,102,101,99,116,105,118,101,68,105,114,101,99,116,
 105,118,101]⟩)),.k (.val (.str ⟨#[108,105,110,101,78,117,109,98,101,114]⟩)),.k (.val (.str ⟨#[114,101,102,101,114,114,101,114]⟩)),.k (.val (.str ⟨#[115,97,
 109,112,108,101]⟩)),.k (.val (.str ⟨#[115,111,117,114,99,101,70,105,108,101]⟩))])) [4,5,7,8,11,12,14,15,17,18,21,23] (.step 6 (o 17 (.call 174 [.t 16])) [7,
 8,11,12,14,15,17,18,21,23] (.step 9 (o 20 (.call 175 [.t 19])) [11,12,14,15,17,18,21,23] (.step 10 (o 21 (.call 172 [.t 20])) [11,12,14,15,17,18,21,23] (.step
 13 (o 24 (.call 172 [.t 23])) [14,15,17,18,21,23] (.step 16 (o 27 (.call 174 [.t 26])) [17,18,21,23] (.step 19 (o 30 (.call 175 [.t 29])) [21,23] (.step 20 (o 31 (.call
 172 [.t 30])) [21,23] (.step 22 (o 33 (.call 172 [.t 32])) [23] (.step 24 (o 35 (.call 176 [.t 34])) [] (.step 25 (o 36 (.call 172 [.t 35])) [] (.step 26 (o 37 (.lit 81 5 [.t 14,
 .t 17,.t 21,.t 24,.t 27,.t 31,.t 33,.t 36])) [] (.early 27 (o 38 (.build [.val (.int .i64 0),.val (.int .i64 0),.val (.str ⟨#[]⟩),.emp 1,.emp 5] [(0,1,.k (.val (.int
 .i64 6))),(3,1,.t 11),(4,1,.t 37)])) (.step 28 (n (.store 5 (.t 2) (.t 38))) [] .done))))))))))))) (.alt 6 (o 17 (.call 174 [.t 16])) [7,8,11,12,14,15,17,18,21,23]
 (.alt 0 (o 11 (.lit 9 1 [.k (.val (.str ⟨#[98,108,111,99,107,101,100,85,82,76]⟩)),.k (.val (.str ⟨#[99,111,108,117,109,110,78,117,109,98,101,114]⟩)),.k (.val
 (.str ⟨#[100,111,99,117,109,101,110,116,85,82,76]⟩)),.k (.val (.str ⟨#[101,102,102,101,99,116,105,118,101,68,105,114,101,99,116,105,118,101]⟩)),.k
 (.val (.str ⟨#[108,105,110,101,78,117,109,98,101,114]⟩)),.k (.val (.str ⟨#[114,101,102,101,114,114,101,114]⟩)),.k (.val (.str ⟨#[115,97,109,112,108,101]⟩)),
 .k (.val (.str ⟨#[115,111,117,114,99,101,70,105,108,101]⟩))])) [7,8,11,12,14,15,17,18,21,23] (.step 9 (o 20 (.call 175 [.t 19])) [11,12,14,15,17,18,21,23]
 (.step 10 (o 21 (.call 172 [.t 20])) [11,12,14,15,17,18,21,23] (.step 13 (o 24 (.call 172 [.t 23])) [14,15,17,18,21,23] (.step 16 (o 27 (.call 174 [.t 26])) [17,18,
 21,23] (.step 19 (o 30 (.call 175 [.t 29])) [21,23] (.step 20 (o 31 (.call 172 [.t 30])) [21,23] (.step 22 (o 33 (.call 172 [.t 32])) [23] (.step 24 (o 35 (.call 176 [.t 34]))
 [] (.step 25 (o 36 (.call 172 [.t 35])) [] (.step 26 (o 37 (.lit 81 5 [.t 14,.t 17,.t 21,.t 24,.t 27,.t 31,.t 33,.t 36])) [] (.early 27 (o 38 (.build [.val (.int .i64 0),
 .val (.int .i64 0),.val (.str ⟨#[]⟩),.emp 1,.emp 5] [(0,1,.k (.val (.int .i64 6))),(3,1,.t 11),(4,1,.t 37)])) (.step 28 (n (.store 5 (.t 2) (.t 38))) []
 .done)))))))))))) (.alt 9 (o 20 (.call 175 [.t 19])) [11,12,14,15,17,18,21,23] (.alt 0 (o 11 (.lit 9 1 [.k (.val (.str ⟨#[98,108,111,99,107,101,100,85,82,76]⟩)),.k
 (.val (.str ⟨#[99,111,108,117,109,110,78,117,109,98,101,114]⟩)),.k (.val (.str ⟨#[100,111,99,117,109,101,110,116,85,82,76]⟩)),.k (.val (.str ⟨#[101,102,
 102,101,99,116,105,118,101,68,105,114,101,99,116,105,118,101]⟩)),.k (.val (.str ⟨#[108,105,110,101,78,117,109,98,101,114]⟩)),.k (.val (.str ⟨#[114,101,
 102,101,114,114,101,114]⟩)),.k (.val (.str ⟨#[115,97,109,112,108,101]⟩)),.k (.val (.str ⟨#[115,111,117,114,99,101,70,105,108,101]⟩))])) [11,12,14,15,17,
 18,21,23] (.step 10 (o 21 (.call 172 [.t 20])) [11,12,14,15,17,18,21,23] (.step 13 (o 24 (.call 172 [.t 23])) [14,15,17,18,21,23] (.step 16 (o 27 (.call 174 [.t 26]))
 [17,18,21,23] (.step 19 (o 30 (.call 175 [.t 29])) [21,23] (.step 20 (o 31 (.call 172 [.t 30])) [21,23] (.step 22 (o 33 (.call 172 [.t 32])) [23] (.step 24 (o 35 (.call 176
 [.t 34])) [] (.step 25 (o 36 (.call 172 [.t 35])) [] (.step 26 (o 37 (.lit 81 5 [.t 14,.t 17,.t 21,.t 24,.t 27,.t 31,.t 33,.t 36])) [] (.early 27 (o 38 (.build [.val (.int
 .i64 0),.val (.int .i64 0),.val (.str ⟨#[]⟩),.emp 1,.emp 5] [(0,1,.k (.val (.int .i64 6))),(3,1,.t 11),(4,1,.t 37)])) (.step 28 (n (.store 5 (.t 2) (.t 38))) []
 .done))))))))))) (.alt 10 (o 21 (.call 172 [.t 20])) [11,12,14,15,17,18,21,23] (.alt 0 (o 11 (.lit 9 1 [.k (.val (.str ⟨#[98,108,111,99,107,101,100,85,82,76]⟩)),.k
 (.val (.str ⟨#[99,111,108,117,109,110,78,117,109,98,101,114]⟩)),.k (.val (.str ⟨#[100,111,99,117,109,101,110,116,85,82,76]⟩)),.k (.val (.str ⟨#[101,102,
 102,101,99,116,105,118,101,68,105,114,101,99,116,105,118,101]⟩)),.k (.val (.str ⟨#[108,105,110,101,78,117,109,98,101,114]⟩)),.k (.val (.str ⟨#[114,101,
 102,101,114,114,101,114]⟩)),.k (.val (.str ⟨#[115,97,109,112,108,101]⟩)),.k (.val (.str ⟨#[115,111,117,114,99,101,70,105,108,101]⟩))])) [11,12,14,15,17,
 18,21,23] (.step 13 (o 24 (.call 172 [.t 23])) [14,15,17,18,21,23] (.step 16 (o 27 (.call 174 [.t 26])) [17,18,21,23] (.step 19 (o 30 (.call 175 [.t 29])) [21,23] (.step
 20 (o 31 (.call 172 [.t 30])) [21,23] (.step 22 (o 33 (.call 172 [.t 32])) [23] (.step 24 (o 35 (.call 176 [.t 34])) [] (.step 25 (o 36 (.call 172 [.t 35])) [] (.step 26 (o 37
 (.lit 81 5 [.t 14,.t 17,.t 21,.t 24,.t 27,.t 31,.t 33,.t 36])) [] (.early 27 (o 38 (.build [.val (.int .i64 0),.val (.int .i64 0),.val (.str ⟨#[]⟩),.emp 1,.emp 5] [(0,
 1,.k (.val (.int .i64 6))),(3,1,.t 11),(4,1,.t 37)])) (.step 28 (n (.store 5 (.t 2) (.t 38))) [] .done)))))))))) (.alt 13 (o 24 (.call 172 [.t 23])) [14,15,17,18,21,23]
 (.alt 0 (o 11 (.lit 9 1 [.k (.val (.str ⟨#[98,108,111,99,107,101,100,85,82,76]⟩)),.k (.val (.str ⟨#[99,111,108,117,109,110,78,117,109,98,101,114]⟩)),.k (.val
 (.str ⟨#[100,111,99,117,109,101,110,116,85,82,76]⟩)),.k (.val (.str ⟨#[101,102,102,101,99,116,105,118,101,68,105,114,101,99,116,105,118,101]⟩)),.k
 (.val (.str ⟨#[108,105,110,101,78,117,109,98,101,114]⟩)),.k (.val (.str ⟨#[114,101,102,101,114,114,101,114]⟩)),.k (.val (.str ⟨#[115,97,109,112,108,101]⟩)),
 .k (.val (.str ⟨#[115,111,117,114,99,101,70,105,108,101]⟩))])) [14,15,17,18,21,23] (.step 16 (o 27 (.call 174 [.t 26])) [17,18,21,23] (.step 19 (o 30 (.call 175
 [.t 29])) [21,23] (.step 20 (o 31 (.call 172 [.t 30])) [21,23] (.step 22 (o 33 (.call 172 [.t 32])) [23] (.step 24 (o 35 (.call 176 [.t 34])) [] (.step 25 (o 36 (.call 172 [.t
 35])) [] (.step 26 (o 37 (.lit 81 5 [.t 14,.t 17,.t 21,.t 24,.t 27,.t 31,.t 33,.t 36])) [] (.early 27 (o 38 (.build [.val (.int .i64 0),.val (.int .i64 0),.val (.str
 ⟨#[]⟩),.emp 1,.emp 5] [(0,1,.k (.val (.int .i64 6))),(3,1,.t 11),(4,1,.t 37)])) (.step 28 (n (.store 5 (.t 2) (.t 38))) [] .done))))))))) (.alt 16 (o 27 (.call 174 [.t
 26])) [17,18,21,23] (.alt 0 (o 11 (.lit 9 1 [.k (.val (.str ⟨#[98,108,111,99,107,101,100,85,82,76]⟩)),.k (.val (.str ⟨#[99,111,108,117,109,110,78,117,109,98,
 101,114]⟩)),.k (.val (.str ⟨#[100,111,99,117,109,101,110,116,85,82,76]⟩)),.k (.val (.str ⟨#[101,102,102,101,99,116,105,118,101,68,105,114,101,99,116,
 105,118,101]⟩)),.k (.val (.str ⟨#[108,105,110,101,78,117,109,98,101,114]⟩)),.k (.val (.str ⟨#[114,101,102,101,114,114,101,114]⟩)),.k (.val (.str ⟨#[115,97,
 109,112,108,101]⟩)),.k (.val (.str ⟨#[115,111,117,114,99,101,70,105,108,101]⟩))])) [17,18,21,23] (.step 19 (o 30 (.call 175 [.t 29])) [21,23] (.step 20 (o 31
 (.call 172 [.t 30])) [21,23] (.step 22 (o 33 (.call 172 [.t 32])) [23] (.step 24 (o 35 (.call 176 [.t 34])) [] (.step 25 (o 36 (.call 172 [.t 35])) [] (.step 26 (o 37 (.lit 81 5
 [.t 14,.t 17,.t 21,.t 24,.t 27,.t 31,.t 33,.t 36])) [] (.early 27 (o 38 (.build [.val (.int .i64 0),.val (.int .i64 0),.val (.str ⟨#[]⟩),.emp 1,.emp 5] [(0,1,.k (.val
 (.int .i64 6))),(3,1,.t 11),(4,1,.t 37)])) (.step 28 (n (.store 5 (.t 2) (.t 38))) [] .done)))))))) (.alt 19 (o 30 (.call 175 [.t 29])) [21,23] (.alt 0 (o 11 (.lit 9 1 [.k
 (.val (.str ⟨#[98,108,111,99,107,101,100,85,82,76]⟩)),.k (.val (.str ⟨#[99,111,108,117,109,110,78,117,109,98,101,114]⟩)),.k (.val (.str ⟨#[100,111,99,117,
 109,101,110,116,85,82,76]⟩)),.k (.val (.str ⟨#[101,102,102,101,99,116,105,118,101,68,105,114,101,99,116,105,118,101]⟩)),.k (.val (.str ⟨#[108,105,110,
 101,78,117,109,98,101,114]⟩)),.k (.val (.str ⟨#[114,101,102,101,114,114,101,114]⟩)),.k (.val (.str ⟨#[115,97,109,112,108,101]⟩)),.k (.val (.str ⟨#[115,111,
 117,114,99,101,70,105,108,101]⟩))])) [21,23] (.step 20 (o 31 (.call 172 [.t 30])) [21,23] (.step 22 (o 33 (.call 172 [.t 32])) [23] (.step 24 (o 35 (.call 176 [.t 34])) []
 (.step 25 (o 36 (.call 172 [.t 35])) [] (.step 26 (o 37 (.lit 81 5 [.t 14,.t 17,.t 21,.t 24,.t 27,.t 31,.t 33,.t 36])) [] (.early 27 (o 38 (.build [.val (.int .i64 0),.val
 (.int .i64 0),.val (.str ⟨#[]⟩),.emp 1,.emp 5] [(0,1,.k (.val (.int .i64 6))),(3,1,.t 11),(4,1,.t 37)])) (.step 28 (n (.store 5 (.t 2) (.t 38))) [] .done))))))) (.alt 20
 (o 31 (.call 172 [.t 30])) [21,23] (.alt 0 (o 11 (.lit 9 1 [.k (.val (.str ⟨#[98,108,111,99,107,101,100,85,82,76]⟩)),.k (.val (.str ⟨#[99,111,108,117,109,110,78,
 117,109,98,101,114]⟩)),.k (.val (.str ⟨#[100,111,99,117,109,101,110,116,85,82,76]⟩)),.k (.val (.str ⟨#[101,102,102,101,99,116,105,118,101,68,105,114,
 101,99,116,105,118,101]⟩)),.k (.val (.str ⟨#[108,105,110,101,78,117,109,98,101,114]⟩)),.k (.val (.str ⟨#[114,101,102,101,114,114,101,114]⟩)),.k (.val (.str
 ⟨#[115,97,109,112,108,101]⟩)),.k (.val (.str ⟨#[115,111,117,114,99,101,70,105,108,101]⟩))])) [21,23] (.step 22 (o 33 (.call 172 [.t 32])) [23] (.step 24 (o 35
 (.call 176 [.t 34])) [] (.step 25 (o 36 (.call 172 [.t 35])) [] (.step 26 (o 37 (.lit 81 5 [.t 14,.t 17,.t 21,.t 24,.t 27,.t 31,.t 33,.t 36])) [] (.early 27 (o 38 (.build
 [.val (.int .i64 0),.val (.int .i64 0),.val (.str ⟨#[]⟩),.emp 1,.emp 5] [(0,1,.k (.val (.int .i64 6))),(3,1,.t 11),(4,1,.t 37)])) (.step 28 (n (.store 5 (.t 2) (.t
 38))) [] .done)))))) (.alt 22 (o 33 (.call 172 [.t 32])) [23] (.alt 0 (o 11 (.lit 9 1 [.k (.val (.str ⟨#[98,108,111,99,107,101,100,85,82,76]⟩)),.k (.val (.str ⟨#[99,111,
 108,117,109,110,78,117,109,98,101,114]⟩)),.k (.val (.str ⟨#[100,111,99,117,109,101,110,116,85,82,76]⟩)),.k (.val (.str ⟨#[101,102,102,101,99,116,105,
 118,101,68,105,114,101,99,116,105,118,101]⟩)),.k (.val (.str ⟨#[108,105,110,101,78,117,109,98,101,114]⟩)),.k (.val (.str ⟨#[114,101,102,101,114,114,101,
 114]⟩)),.k (.val (.str ⟨#[115,97,109,112,108,101]⟩)),.k (.val (.str ⟨#[115,111,117,114,99,101,70,105,108,101]⟩))])) [23] (.step 24 (o 35 (.call 176 [.t 34])) []
 (.step 25 (o 36 (.call 172 [.t 35])) [] (.step 26 (o 37 (.lit 81 5 [.t 14,.t 17,.t 21,.t 24,.t 27,.t 31,.t 33,.t 36])) [] (.early 27 (o 38 (.build [.val (.int .i64 0),.val
 (.int .i64 0),.val (.str ⟨#[]⟩),.emp 1,.emp 5] [(0,1,.k (.val (.int .i64 6))),(3,1,.t 11),(4,1,.t 37)])) (.step 28 (n (.store 5 (.t 2) (.t 38))) [] .done))))) (.alt 24
 (o 35 (.call 176 [.t 34])) [] (.alt 0 (o 11 (.lit 9 1 [.k (.val (.str ⟨#[98,108,111,99,107,101,100,85,82,76]⟩)),.k (.val (.str ⟨#[99,111,108,117,109,110,78,117,
 109,98,101,114]⟩)),.k (.val (.str ⟨#[100,111,99,117,109,101,110,116,85,82,76]⟩)),.k (.val (.str ⟨#[101,102,102,101,99,116,105,118,101,68,105,114,101,99,
 116,105,118,101]⟩)),.k (.val (.str ⟨#[108,105,110,101,78,117,109,98,101,114]⟩)),.k (.val (.str ⟨#[114,101,102,101,114,114,101,114]⟩)),.k (.val (.str ⟨#[115,
 97,109,112,108,101]⟩)),.k (.val (.str ⟨#[115,111,117,114,99,101,70,105,108,101]⟩))])) [] (.step 25 (o 36 (.call 172 [.t 35])) [] (.step 26 (o 37 (.lit 81 5 [.t 14,.t
 17,.t 21,.t 24,.t 27,.t 31,.t 33,.t 36])) [] (.early 27 (o 38 (.build [.val (.int .i64 0),.val (.int .i64 0),.val (.str ⟨#[]⟩),.emp 1,.emp 5] [(0,1,.k (.val (.int .i64
 6))),(3,1,.t 11),(4,1,.t 37)])) (.step 28 (n (.store 5 (.t 2) (.t 38))) [] .done)))) (.alt 25 (o 36 (.call 172 [.t 35])) [] (.alt 0 (o 11 (.lit 9 1 [.k (.val (.str ⟨#[98,
 108,111,99,107,101,100,85,82,76]⟩)),.k (.val (.str ⟨#[99,111,108,117,109,110,78,117,109,98,101,114]⟩)),.k (.val (.str ⟨#[100,111,99,117,109,101,110,116,
 85,82,76]⟩)),.k (.val (.str ⟨#[101,102,102,101,99,116,105,118,101,68,105,114,101,99,116,105,118,101]⟩)),.k (.val (.str ⟨#[108,105,110,101,78,117,109,98,
 101,114]⟩)),.k (.val (.str ⟨#[114,101,102,101,114,114,101,114]⟩)),.k (.val (.str ⟨#[115,97,109,112,108,101]⟩)),.k (.val (.str ⟨#[115,111,117,114,99,101,70,
 105,108,101]⟩))])) [] (.step 26 (o 37 (.lit 81 5 [.t 14,.t 17,.t 21,.t 24,.t 27,.t 31,.t 33,.t 36])) [] (.early 27 (o 38 (.build [.val (.int .i64 0),.val (.int .i64 0),
 .val (.str ⟨#[]⟩),.emp 1,.emp 5] [(0,1,.k (.val (.int .i64 6))),(3,1,.t 11),(4,1,.t 37)])) (.step 28 (n (.store 5 (.t 2) (.t 38))) [] .done))) (.alt 26 (o 37 (.lit 81 5
 [.t 14,.t 17,.t 21,.t 24,.t 27,.t 31,.t 33,.t 36])) [] (.step 0 (o 11 (.lit 9 1 [.k (.val (.str ⟨#[98,108,111,99,107,101,100,85,82,76]⟩)),.k (.val (.str ⟨#[99,
 111,108,117,109,110,78,117,109,98,101,114]⟩)),.k (.val (.str ⟨#[100,111,99,117,109,101,110,116,85,82,76]⟩)),.k (.val (.str ⟨#[101,102,102,101,99,116,
 105,118,101,68,105,114,101,99,116,105,118,101]⟩)),.k (.val (.str ⟨#[108,105,110,101,78,117,109,98,101,114]⟩)),.k (.val (.str ⟨#[114,101,102,101,114,114,
 101,114]⟩)),.k (.val (.str ⟨#[115,97,109,112,108,101]⟩)),.k (.val (.str ⟨#[115,111,117,114,99,101,70,105,108,101]⟩))])) [] (.early 27 (o 38 (.build [.val (.int
 .i64 0),.val (.int .i64 0),.val (.str ⟨#[]⟩),.emp 1,.emp 5] [(0,1,.k (.val (.int .i64 6))),(3,1,.t 11),(4,1,.t 37)])) (.step 28 (n (.store 5 (.t 2) (.t 38))) []
 .done))) .stop)) .stop)) .stop)) .stop)) .stop)) .stop)) .stop)) .stop)) .stop)) .stop)) .stop)) .stop)) .stop)))))))))))))))) (.ret)))
theorem ok113:j8 Tryz.prog 113 ir113 1 [.c 2 true 5]=true:=by kernel_rfl
def ir50:PC:=.seq (.reg [o 2 (.box (.t 0)),o 4 (.mov (i 0))]) (.seq (.reg [m 5 1,o 6 (.faddr 0 (.t 2)),l 7 6,o 8 (.lens (.t 7)),o 9 (.bin .sub (.t 5) (.t 8)),m 1 9]) (.seq
 (.seq (.reg [m 10 1,o 11 (.bin .lss (.t 10) (i 0))]) (.cond (.t 11) (.seq (.reg [o 4 (.mov (i (-1)))]) (.ret)) (.skip))) (.seq (.reg [m 12 1,o 13 (.faddr 1 (.t 2)),l 14 13,o 15
 (.lens (.t 14)),o 16 (.bin .sub (.t 12) (.t 15)),m 1 16]) (.seq (.seq (.reg [m 17 1,o 18 (.bin .lss (.t 17) (i 0))]) (.cond (.t 18) (.seq (.reg [o 4 (.mov (i (-1)))]) (.ret))
 (.skip))) (.seq (.reg [m 19 1,o 20 (.faddr 2 (.t 2)),l 21 20,o 22 (.lens (.t 21)),o 23 (.bin .sub (.t 19) (.t 22)),m 1 23]) (.seq (.seq (.reg [m 24 1,o 25 (.bin .lss (.t 24)
 (i 0))]) (.cond (.t 25) (.seq (.reg [o 4 (.mov (i (-1)))]) (.ret)) (.skip))) (.seq (.reg [m 26 1,o 27 (.faddr 3 (.t 2)),l 28 27,o 29 (.lens (.t 28)),o 30 (.bin .sub (.t 26) (.t
 29)),m 1 30]) (.seq (.seq (.reg [m 31 1,o 32 (.bin .lss (.t 31) (i 0))]) (.cond (.t 32) (.seq (.reg [o 4 (.mov (i (-1)))]) (.ret)) (.skip))) (.seq (.reg [m 33 1,o 34 (.faddr 4
 (.t 2)),l 35 34,o 36 (.lens (.t 35)),o 37 (.bin .sub (.t 33) (.t 36)),m 1 37]) (.seq (.seq (.reg [m 38 1,o 39 (.bin .lss (.t 38) (i 0))]) (.cond (.t 39) (.seq (.reg [o 4 (.mov
 (i (-1)))]) (.ret)) (.skip))) (.seq (.reg [m 40 1,o 41 (.faddr 5 (.t 2)),l 42 41,o 43 (.lens (.t 42)),o 44 (.bin .sub (.t 40) (.t 43)),m 1 44]) (.seq (.seq (.reg [m 45 1,o 46
 (.bin .lss (.t 45) (i 0))]) (.cond (.t 46) (.seq (.reg [o 4 (.mov (i (-1)))]) (.ret)) (.skip))) (.seq (.reg [m 47 1,m 4 47]) (.ret))))))))))))))
theorem ok50:j8 Tryz.prog 50 ir50 2 [.t 4]=true:=by kernel_rfl
def ir52:PC:=.seq (.reg [o 1 (.box (.t 0)),o 2 (.alloc [.val (.str ⟨#[]⟩),.val (.str ⟨#[]⟩),.val (.str ⟨#[]⟩),.val (.str ⟨#[]⟩),.val (.str ⟨#[]⟩),.val (.str ⟨#[]⟩),.val
 (.int .i64 0),.val (.int .i64 0),.val (.bool false)])]) (.seq (.reg [o 3 (.alloc [.val (.str ⟨#[]⟩),.val (.str ⟨#[]⟩),.val (.str ⟨#[]⟩),.val (.str ⟨#[]⟩),.val (.str ⟨#[]⟩),
 .val (.str ⟨#[]⟩),.val (.int .i64 0),.val (.int .i64 0),.val (.bool false)])]) (.seq (.reg [o 4 (.faddr 0 (.t 1)),l 5 4,o 6 (.faddr 0 (.t 3)),n (.store 1 (.t 6) (.t 5))])
 (.seq (.reg [o 7 (.faddr 1 (.t 1)),l 8 7,o 9 (.faddr 1 (.t 3)),n (.store 1 (.t 9) (.t 8))]) (.seq (.reg [o 10 (.faddr 2 (.t 1)),l 11 10,o 12 (.faddr 2 (.t 3)),n (.store 1 (.t
 12) (.t 11))]) (.seq (.reg [o 13 (.faddr 3 (.t 1)),l 14 13,o 15 (.faddr 3 (.t 3)),n (.store 1 (.t 15) (.t 14))]) (.seq (.reg [o 16 (.faddr 4 (.t 1)),l 17 16,o 18 (.faddr 4 (.t
 3)),n (.store 1 (.t 18) (.t 17))]) (.seq (.reg [o 19 (.faddr 5 (.t 1)),l 20 19,o 21 (.faddr 5 (.t 3)),n (.store 1 (.t 21) (.t 20))]) (.seq (.reg [o 22 (.faddr 6 (.t 1)),l 23
 22,o 24 (.faddr 6 (.t 3)),n (.store 1 (.t 24) (.t 23))]) (.seq (.reg [o 25 (.faddr 7 (.t 1)),l 26 25,o 27 (.faddr 7 (.t 3)),n (.store 1 (.t 27) (.t 26))]) (.seq (.reg [o 28
 (.faddr 8 (.t 1)),l 29 28,o 30 (.faddr 8 (.t 3)),n (.store 1 (.t 30) (.t 29))]) (.seq (.reg [o 31 (.load true 9 (.t 3)),n (.store 9 (.t 2) (.t 31))]) (.ret))))))))))))
theorem ok52:j8 Tryz.prog 52 ir52 1 [.c 2 true 9]=true:=by kernel_rfl
end Go.Proofs
end
section
namespace Go.Proofs
open Go.PW Go.PW.I
def ir51:PC:=.seq (.reg [o 1 (.box (.t 0)),o 2 (.alloc [.val (.int .i64 0),.val (.int .i64 0),.val (.str ⟨#[]⟩),.emp 1,.emp 5]),o 3 (.mov (i 0))]) (.seq (.seq (.reg [o 4
 (.load true 9 (.t 1)),o 5 (.call 110 [.t 4]),o 6 (.un .not (.t 5))]) (.cond (.t 6) (.seq (.reg [o 7 (.build [.val (.int .i64 0),.val (.int .i64 0),.val (.str ⟨#[]⟩),.emp 1,
 .emp 5] []),n (.store 5 (.t 2) (.t 7)),o 3 (.mov (i 1))]) (.ret)) (.skip))) (.seq (.reg [o 8 (.load true 9 (.t 1)),o 9 (.call 111 [.t 8]),n (.store 5 (.t 2) (.t 9)),o 3 (.mov
 (i 0))]) (.ret)))
theorem ok51:j8 Tryz.prog 51 ir51 1 [.c 2 true 5,.t 3]=true:=by kernel_rfl
def ir53:PC:=.seq (.reg [o 1 (.box (.t 0)),o 2 (.alloc [.val (.int .i64 0),.val (.int .i64 0),.val (.str ⟨#[]⟩),.emp 1,.emp 5]),o 3 (.mov (i 0))]) (.seq (.seq (.reg [o 4
 (.load true 9 (.t 1)),o 5 (.call 112 [.t 4]),o 6 (.un .not (.t 5))]) (.cond (.t 6) (.seq (.reg [o 7 (.build [.val (.int .i64 0),.val (.int .i64 0),.val (.str ⟨#[]⟩),.emp 1,
 .emp 5] []),n (.store 5 (.t 2) (.t 7)),o 3 (.mov (i 1))]) (.ret)) (.skip))) (.seq (.reg [o 8 (.load true 9 (.t 1)),o 9 (.call 113 [.t 8]),n (.store 5 (.t 2) (.t 9)),o 3 (.mov
 (i 0))]) (.ret)))
theorem ok53:j8 Tryz.prog 53 ir53 1 [.c 2 true 5,.t 3]=true:=by kernel_rfl
def ir10:PC:=.seq (.reg [o 1 (.box (.t 0)),o 2 (.mov F)]) (.seq (.reg [o 3 (.mov (i 1048576))]) (.seq (.reg [o 12 (.load true 9 (.t 1)),m 13 3,o 14 (.call 50 [.t 12,.t 13]),
 m 3 14]) (.seq (.seq (.reg [m 15 3,o 16 (.bin .lss (.t 15) (i 0))]) (.cond (.t 16) (.seq (.reg [o 2 (.mov T)]) (.ret)) (.skip))) (.seq (.reg [o 18 (.load true 9 (.t 1)),o 19
 (.call 52 [.t 18]),o 20 (.call 51 [.t 19]),m 17 20,o 21 (.ext 0 (.t 17)),o 22 (.ext 1 (.t 17)),o 4 (.alloc [.val (.int .i64 0),.val (.int .i64 0),.val (.str ⟨#[]⟩),.emp 1,
 .emp 5]),n (.store 5 (.t 4) (.t 21)),m 5 22]) (.seq (.reg [o 24 (.load true 9 (.t 1)),o 25 (.call 52 [.t 24]),o 26 (.call 53 [.t 25]),m 23 26,o 27 (.ext 0 (.t 23)),o 28
 (.ext 1 (.t 23)),o 6 (.alloc [.val (.int .i64 0),.val (.int .i64 0),.val (.str ⟨#[]⟩),.emp 1,.emp 5]),n (.store 5 (.t 6) (.t 27)),m 7 28]) (.seq (.seq (.reg [o 29 (.load
 true 5 (.t 6)),o 30 (.load true 5 (.t 4)),o 31 (.call 54 [.t 29,.t 30]),o 32 (.un .not (.t 31)),m 33 32,g 34 33 false (.mov (.t 7)),g 35 33 false (.mov (.t 5)),g 36 33
 false (.bin .neq (.t 34) (.t 35)),o 37 (.pick (.t 33) T (.t 36))]) (.cond (.t 37) (.seq (.reg [o 2 (.mov F)]) (.ret)) (.skip))) (.seq (.reg [o 8 (.mov (i 1))]) (.seq (.reg [o 38
 (.load true 5 (.t 6)),m 39 8,o 40 (.call 55 [.t 38,.t 39]),m 8 40]) (.seq (.reg [o 9 (.mov (i 1))]) (.seq (.reg [o 41 (.load true 5 (.t 6)),m 42 9,o 43 (.call 56 [.t 41,.t
 42]),m 9 43]) (.seq (.seq (.reg [m 44 9,o 45 (.bin .lss (.t 44) (i 0))]) (.cond (.t 45) (.seq (.reg [o 2 (.mov F)]) (.ret)) (.skip))) (.seq (.seq (.reg [m 46 9,m 47 8,o 48
 (.bin .neq (.t 46) (.t 47))]) (.cond (.t 48) (.seq (.reg [o 2 (.mov F)]) (.ret)) (.skip))) (.seq (.reg [o 50 (.load true 9 (.t 1)),o 51 (.call 52 [.t 50]),o 52 (.call 53 [.t
 51]),m 49 52,o 53 (.ext 0 (.t 49)),o 54 (.ext 1 (.t 49)),o 10 (.alloc [.val (.int .i64 0),.val (.int .i64 0),.val (.str ⟨#[]⟩),.emp 1,.emp 5]),n (.store 5 (.t 10) (.t
 53)),m 11 54]) (.seq (.seq (.reg [o 55 (.load true 5 (.t 10)),o 56 (.load true 5 (.t 4)),o 57 (.call 54 [.t 55,.t 56]),o 58 (.un .not (.t 57)),m 59 58,g 60 59 false (.mov
 (.t 11)),g 61 59 false (.mov (.t 5)),g 62 59 false (.bin .neq (.t 60) (.t 61)),o 63 (.pick (.t 59) T (.t 62))]) (.cond (.t 63) (.seq (.reg [o 2 (.mov F)]) (.ret)) (.skip)))
 (.seq (.reg [o 9 (.mov (i 1))]) (.seq (.reg [o 64 (.load true 5 (.t 6)),m 65 9,o 66 (.call 56 [.t 64,.t 65]),m 9 66]) (.seq (.seq (.reg [m 67 9,o 68 (.bin .lss (.t 67) (i
 0))]) (.cond (.t 68) (.seq (.reg [o 2 (.mov F)]) (.ret)) (.skip))) (.seq (.seq (.reg [m 69 9,m 70 8,o 71 (.bin .neq (.t 69) (.t 70))]) (.cond (.t 71) (.seq (.reg [o 2 (.mov F)])
 (.ret)) (.skip))) (.seq (.reg [o 2 (.mov T)]) (.ret))))))))))))))))))))
theorem ok10:j8 Tryz.prog 10 ir10 1 [.t 2]=true:=by kernel_rfl
def ir54:PC:=.seq (.reg [o 2 (.box (.t 0)),o 3 (.box (.t 1)),o 4 (.mov F)]) (.seq (.seq (.reg [o 5 (.faddr 0 (.t 2)),l 6 5,o 7 (.faddr 0 (.t 3)),l 8 7,o 9 (.bin .neq (.t
 6) (.t 8))]) (.cond (.t 9) (.seq (.reg [o 4 (.mov F)]) (.ret)) (.skip))) (.seq (.seq (.reg [o 10 (.faddr 1 (.t 2)),l 11 10,o 12 (.faddr 1 (.t 3)),l 13 12,o 14 (.bin .neq (.t
 11) (.t 13))]) (.cond (.t 14) (.seq (.reg [o 4 (.mov F)]) (.ret)) (.skip))) (.seq (.seq (.reg [o 15 (.faddr 2 (.t 2)),l 16 15,o 17 (.faddr 2 (.t 3)),l 18 17,o 19 (.bin .neq (.t
 16) (.t 18))]) (.cond (.t 19) (.seq (.reg [o 4 (.mov F)]) (.ret)) (.skip))) (.seq (.seq (.reg [o 20 (.faddr 3 (.t 2)),l 21 20,o 22 (.faddr 3 (.t 3)),l 23 22,o 24 (.call 73 [.t
 21,.t 23]),o 25 (.un .not (.t 24))]) (.cond (.t 25) (.seq (.reg [o 4 (.mov F)]) (.ret)) (.skip))) (.seq (.seq (.reg [o 26 (.faddr 4 (.t 2)),l 27 26,o 28 (.faddr 4 (.t 3)),l 29
 28,o 30 (.call 114 [.t 27,.t 29]),o 31 (.un .not (.t 30))]) (.cond (.t 31) (.seq (.reg [o 4 (.mov F)]) (.ret)) (.skip))) (.seq (.reg [o 4 (.mov T)]) (.ret)))))))
theorem ok54:j8 Tryz.prog 54 ir54 2 [.t 4]=true:=by kernel_rfl
def ir114:PC:=.seq (.reg [o 4 (.mov F)]) (.seq (.seq (.reg [m 6 0,o 7 (.len (.t 6)),m 8 1,o 9 (.len (.t 8)),o 10 (.bin .neq (.t 7) (.t 9))]) (.cond (.t 10) (.seq (.reg [o 4
 (.mov F)]) (.ret)) (.skip))) (.seq (.seq (.reg [o 5 (.mov (i 0))]) (.block 0 (.loop (.ghost (.seq (.seq (.reg [m 11 5,m 12 0,o 13 (.len (.t 12)),o 14 (.bin .lss (.t 11) (.t
 13))]) (.cond (.t 14) (.skip) (.exit 0))) (.seq (.block 1 (.seq (.draw [m 17 0,m 18 5,o 19 (.iaddr 5 (.t 17) (.t 18)),o 20 (.load true 5 (.t 19)),m 21 1,m 22 5,o 23 (.iaddr 5
 (.t 21) (.t 22)),o 24 (.load true 5 (.t 23))] [o 25 (.call 54 [.t 20,.t 24]),o 26 (.un .not (.t 25))]) (.cond (.t 26) (.seq (.reg [o 4 (.mov F)]) (.ret)) (.skip)))) (.reg [m 15
 5,o 16 (.bin .add (.t 15) (i 1)),m 5 16]))))))) (.seq (.reg [o 4 (.mov T)]) (.ret))))
theorem ok114:j8 Tryz.prog 114 ir114 2 [.t 4]=true:=by kernel_rfl
def ir55:PC:=.seq (.reg [o 2 (.box (.t 0)),o 4 (.mov (i 0))]) (.seq (.reg [o 5 (.faddr 3 (.t 2)),l 6 5,m 7 1,o 8 (.callr 74 (.t 6) [.t 7]),m 1 8]) (.seq (.reg [o 9 (.faddr
 4 (.t 2)),l 10 9,m 11 1,o 12 (.callr 115 (.t 10) [.t 11]),m 1 12]) (.seq (.reg [m 13 1,m 4 13]) (.ret))))
theorem ok55:j8 Tryz.prog 55 ir55 2 [.t 4]=true:=by kernel_rfl
def ir115_l6:PC:=.seq (.seq (.reg [m 6 5,m 7 0,o 8 (.len (.t 7)),o 9 (.bin .lss (.t 6) (.t 8))]) (.cond (.t 9) (.skip) (.exit 0))) (.seq (.block 1 (.seq (.reg [m 12 0,m 13
 5,m 14 1,o 15 (.iaddr 5 (.t 12) (.t 13)),o 16 (.faddr 0 (.t 15)),n (.store 1 (.t 16) (.t 14))]) (.seq (.reg [m 17 1,o 18 (.bin .add (.t 17) (i 1)),m 1 18]) (.seq (.reg [m 19
 0,m 20 5,m 21 1,o 22 (.iaddr 5 (.t 19) (.t 20)),o 23 (.faddr 1 (.t 22)),n (.store 1 (.t 23) (.t 21))]) (.seq (.reg [m 24 1,o 25 (.bin .add (.t 24) (i 1)),m 1 25]) (.seq
 (.reg [m 26 0,m 27 5,m 28 1,o 29 (.call 63 [.t 28]),o 30 (.iaddr 5 (.t 26) (.t 27)),o 31 (.faddr 2 (.t 30)),n (.store 1 (.t 31) (.t 29))]) (.seq (.reg [m 32 1,o 33 (.bin
 .add (.t 32) (i 1)),m 1 33]) (.seq (.reg [m 34 0,m 35 5,o 36 (.iaddr 5 (.t 34) (.t 35)),o 37 (.faddr 3 (.t 36)),l 38 37,m 39 1,o 40 (.callr 74 (.t 38) [.t 39]),m 1 40])
 (.reg [m 41 0,m 42 5,o 43 (.iaddr 5 (.t 41) (.t 42)),o 44 (.faddr 4 (.t 43)),l 45 44,m 46 1,o 47 (.callr 115 (.t 45) [.t 46]),m 1 47]))))))))) (.reg [m 10 5,o 11 (.bin .add
 (.t 10) (i 1)),m 5 11]))
def ir115:PC:=.seq (.reg [o 4 (.mov (i 0))]) (.seq (.seq (.reg [o 5 (.mov (i 0))]) (.block 0 (.loop (.ghost ir115_l6)))) (.seq (.reg [m 48 1,m 4 48]) (.ret)))
theorem ok115:j8 Tryz.prog 115 ir115 2 [.t 4]=true:=by kernel_rfl
def ir56:PC:=.seq (.reg [o 2 (.box (.t 0)),o 4 (.mov (i 0))]) (.seq (.reg [o 5 (.faddr 3 (.t 2)),l 6 5,m 7 1,o 8 (.call 76 [.t 6,.t 7]),m 1 8]) (.seq (.seq (.reg [m 9 1,o
 10 (.bin .lss (.t 9) (i 0))]) (.cond (.t 10) (.seq (.reg [o 4 (.mov (i (-1)))]) (.ret)) (.skip))) (.seq (.reg [o 11 (.faddr 4 (.t 2)),l 12 11,m 13 1,o 14 (.call 116 [.t 12,.t
 13]),m 1 14]) (.seq (.seq (.reg [m 15 1,o 16 (.bin .lss (.t 15) (i 0))]) (.cond (.t 16) (.seq (.reg [o 4 (.mov (i (-1)))]) (.ret)) (.skip))) (.seq (.reg [m 17 1,m 4 17])
 (.ret))))))
theorem ok56:j8 Tryz.prog 56 ir56 2 [.t 4]=true:=by kernel_rfl
def ir116_l6:PC:=.seq (.seq (.reg [m 6 5,m 7 0,o 8 (.len (.t 7)),o 9 (.bin .lss (.t 6) (.t 8))]) (.cond (.t 9) (.skip) (.exit 0))) (.seq (.block 1 (.seq (.seq (.reg [m 12 0,
 m 13 5,o 14 (.iaddr 5 (.t 12) (.t 13)),o 15 (.faddr 0 (.t 14)),l 16 15,m 17 1,o 18 (.bin .neq (.t 16) (.t 17))]) (.cond (.t 18) (.seq (.reg [o 4 (.mov (i (-1)))]) (.ret))
 (.skip))) (.seq (.reg [m 19 1,o 20 (.bin .add (.t 19) (i 1)),m 1 20]) (.seq (.seq (.reg [m 21 0,m 22 5,o 23 (.iaddr 5 (.t 21) (.t 22)),o 24 (.faddr 1 (.t 23)),l 25 24,m 26
 1,o 27 (.bin .neq (.t 25) (.t 26))]) (.cond (.t 27) (.seq (.reg [o 4 (.mov (i (-1)))]) (.ret)) (.skip))) (.seq (.reg [m 28 1,o 29 (.bin .add (.t 28) (i 1)),m 1 29]) (.seq (.seq
 (.draw [m 30 0,m 31 5,o 32 (.iaddr 5 (.t 30) (.t 31)),o 33 (.faddr 2 (.t 32)),l 34 33,m 35 1,o 36 (.call 63 [.t 35])] [o 37 (.bin .neq (.t 34) (.t 36))]) (.cond (.t 37) (.seq
 (.reg [o 4 (.mov (i (-1)))]) (.ret)) (.skip))) (.seq (.reg [m 38 1,o 39 (.bin .add (.t 38) (i 1)),m 1 39]) (.seq (.reg [m 40 0,m 41 5,o 42 (.iaddr 5 (.t 40) (.t 41)),o 43
 (.faddr 3 (.t 42)),l 44 43,m 45 1,o 46 (.call 76 [.t 44,.t 45]),m 1 46]) (.seq (.seq (.reg [m 47 1,o 48 (.bin .lss (.t 47) (i 0))]) (.cond (.t 48) (.seq (.reg [o 4 (.mov (i
 (-1)))]) (.ret)) (.skip))) (.seq (.reg [m 49 0,m 50 5,o 51 (.iaddr 5 (.t 49) (.t 50)),o 52 (.faddr 4 (.t 51)),l 53 52,m 54 1,o 55 (.call 116 [.t 53,.t 54]),m 1 55]) (.seq
 (.reg [m 56 1,o 57 (.bin .lss (.t 56) (i 0))]) (.cond (.t 57) (.seq (.reg [o 4 (.mov (i (-1)))]) (.ret)) (.skip))))))))))))) (.reg [m 10 5,o 11 (.bin .add (.t 10) (i 1)),m 5
 11]))
def ir116:PC:=.seq (.reg [o 4 (.mov (i 0))]) (.seq (.seq (.reg [o 5 (.mov (i 0))]) (.block 0 (.loop (.ghost ir116_l6)))) (.seq (.reg [m 58 1,m 4 58]) (.ret)))
theorem ok116:j8 Tryz.prog 116 ir116 2 [.t 4]=true:=by kernel_rfl
end Go.Proofs
end
