/- Ba: merged out of IRs, IRt, IRw, IRx, IRy, IRp, IRq, IRu, IRm, IRn, IRv, IRe, IRf, IRg, IRj, IRo, IRpp, IRuu. -/
import Derived.Test.YtapjdgcfakhpaaaGreatDoorPWv
import Derived.Test.YtapjdgcfakhpaaaGreatDoorChecked
import Derived.KernelRfl
set_option maxRecDepth 100000
section
namespace Go.Proofs
open Go.PW Go.PW.I
def ir108:PC:=.seq (.reg [o 6 (.mov F)]) (.seq (.reg [m 7 0,m 8 1,o 9 (.bin .geq (.t 7) (.t 8)),m 10 9,g 11 10 true (.mov (.t 0)),g 12 10 true (.mov (.t 2)),g 13 10 true
 (.bin .leq (.t 11) (.t 12)),o 14 (.pick (.t 10) (.t 13) F),m 6 14]) (.ret))
theorem ok108:j9 Tryz.prog 108 ir108 3 [.t 6]=true:=by kernel_rfl
def ir265:PC:=.seq (.reg [o 4 (.mov (i 0))]) (.seq (.seq (.reg [o 5 (.mov (i 0))]) (.block 0 (.loop (.ghost (.seq (.seq (.reg [m 6 5,m 7 0,o 8 (.lens (.t 7)),o 9 (.bin .lss
 (.t 6) (.t 8))]) (.cond (.t 9) (.skip) (.exit 0))) (.seq (.block 1 (.seq (.reg [m 12 0,m 13 5,o 14 (.idx (.t 12) (.t 13)),m 15 1,o 16 (.bin .eql (.t 14) (.t 15))]) (.cond (.t
 16) (.seq (.reg [m 17 5,m 4 17]) (.ret)) (.skip)))) (.reg [m 10 5,o 11 (.bin .add (.t 10) (i 1)),m 5 11]))))))) (.seq (.reg [m 18 0,o 19 (.lens (.t 18)),m 4 19]) (.ret)))
theorem ok265:j9 Tryz.prog 265 ir265 2 [.t 4]=true:=by kernel_rfl
def ir266:PC:=.seq (.reg [o 2 (.mov (z #[]))]) (.seq (.reg [o 6 (.lit 5 1 []),m 3 6]) (.seq (.seq (.reg [o 4 (.mov (i 0))]) (.block 0 (.loop (.ghost (.seq (.seq (.reg [m 7 4,m
 8 0,o 9 (.lens (.t 8)),o 10 (.bin .lss (.t 7) (.t 9))]) (.cond (.t 10) (.skip) (.exit 0))) (.seq (.block 1 (.seq (.reg [m 13 0,m 14 4,o 15 (.idx (.t 13) (.t 14)),m 5 15])
 (.seq (.seq (.reg [m 16 5,o 17 (.bin .geq (.t 16) (.k (.val (.int .u8 65)))),m 18 17,g 19 18 true (.mov (.t 5)),g 20 18 true (.bin .leq (.t 19) (.k (.val (.int .u8 90)))),o 21
 (.pick (.t 18) (.t 20) F)]) (.cond (.t 21) (.reg [m 22 5,o 23 (.bin .add (.t 22) (.k (.val (.int .u8 32)))),m 5 23]) (.skip))) (.reg [m 24 3,m 25 5,o 26 (.lit 5 1 [.t 25]),o
 27 (.app 5 1 1 (.t 24) (.t 26)),m 3 27])))) (.reg [m 11 4,o 12 (.bin .add (.t 11) (i 1)),m 4 12]))))))) (.seq (.reg [m 28 3,o 29 (.tostr (.t 28)),m 2 29]) (.ret))))
theorem ok266:j9 Tryz.prog 266 ir266 1 [.t 2]=true:=by kernel_rfl
def ir313:PC:=.seq (.reg [o 4 (.mov F)]) (.seq (.seq (.reg [o 5 (.mov (i 0))]) (.block 0 (.loop (.ghost (.seq (.seq (.reg [m 6 5,m 7 0,o 8 (.lens (.t 7)),o 9 (.bin .lss (.t
 6) (.t 8))]) (.cond (.t 9) (.skip) (.exit 0))) (.seq (.block 1 (.seq (.reg [m 12 0,m 13 5,o 14 (.idx (.t 12) (.t 13)),o 15 (.bin .lss (.t 14) (.k (.val (.int .u8 33)))),m 16
 15,g 17 16 false (.mov (.t 0)),g 18 16 false (.mov (.t 5)),g 19 16 false (.idx (.t 17) (.t 18)),g 20 16 false (.bin .gtr (.t 19) (.k (.val (.int .u8 126)))),o 21 (.pick (.t
 16) T (.t 20)),m 22 21,g 23 22 false (.mov (.t 1)),g 24 22 false (.mov (.t 0)),g 25 22 false (.mov (.t 5)),g 26 22 false (.idx (.t 24) (.t 25)),g 27 22 false (.call 265 [.t
 23,.t 26]),g 28 22 false (.mov (.t 1)),g 29 22 false (.lens (.t 28)),g 30 22 false (.bin .lss (.t 27) (.t 29)),o 31 (.pick (.t 22) T (.t 30))]) (.cond (.t 31) (.seq (.reg [o 4
 (.mov F)]) (.ret)) (.skip)))) (.reg [m 10 5,o 11 (.bin .add (.t 10) (i 1)),m 5 11]))))))) (.seq (.reg [o 4 (.mov T)]) (.ret)))
theorem ok313:j9 Tryz.prog 313 ir313 2 [.t 4]=true:=by kernel_rfl
def ir256:PC:=.seq (.reg [o 2 (.mov F)]) (.seq (.reg [m 3 0,o 4 (.bin .eql (.t 3) (z #[104,116,116,112])),m 5 4,g 6 5 false (.mov (.t 0)),g 7 5 false (.bin .eql (.t 6) (z
 #[104,116,116,112,115])),o 8 (.pick (.t 5) T (.t 7)),m 2 8]) (.ret))
theorem ok256:j9 Tryz.prog 256 ir256 1 [.t 2]=true:=by kernel_rfl
def ir312:PC:=.seq (.reg [o 2 (.mov F)]) (.seq (.seq (.reg [m 5 0,o 6 (.lens (.t 5)),o 7 (.call 108 [.t 6,.k (.val (.int .i64 1)),.k (.val (.int .i64 12))]),o 8 (.un .not
 (.t 7))]) (.cond (.t 8) (.seq (.reg [o 2 (.mov F)]) (.ret)) (.skip))) (.seq (.seq (.reg [o 3 (.mov (i 0))]) (.block 0 (.loop (.ghost (.seq (.seq (.reg [m 9 3,m 10 0,o 11 (.lens
 (.t 10)),o 12 (.bin .lss (.t 9) (.t 11))]) (.cond (.t 12) (.skip) (.exit 0))) (.seq (.block 1 (.seq (.reg [m 15 0,m 16 3,o 17 (.idx (.t 15) (.t 16)),o 18 (.bin .geq (.t 17) (.k
 (.val (.int .u8 97)))),m 19 18,g 20 19 true (.mov (.t 0)),g 21 19 true (.mov (.t 3)),g 22 19 true (.idx (.t 20) (.t 21)),g 23 19 true (.bin .leq (.t 22) (.k (.val (.int .u8
 122)))),o 24 (.pick (.t 19) (.t 23) F),m 4 24]) (.seq (.reg [m 25 4,o 26 (.un .not (.t 25)),m 27 26,g 28 27 true (.mov (.t 3)),g 29 27 true (.bin .eql (.t 28) (i 0)),g 30 27
 true (.mov (.t 29)),g 31 30 false (.mov (.t 0)),g 32 30 false (.mov (.t 3)),g 33 30 false (.idx (.t 31) (.t 32)),g 34 30 false (.call 235 [.t 33]),g 35 30 false (.un .not (.t
 34)),g 36 30 false (.mov (.t 35)),g 37 36 true (.mov (.t 0)),g 38 36 true (.mov (.t 3)),g 39 36 true (.idx (.t 37) (.t 38)),g 40 36 true (.bin .neq (.t 39) (.k (.val (.int .u8
 45)))),g 41 30 false (.pick (.t 36) (.t 40) F),g 42 30 false (.mov (.t 41)),g 43 42 true (.mov (.t 0)),g 44 42 true (.mov (.t 3)),g 45 42 true (.idx (.t 43) (.t 44)),g 46 42
 true (.bin .neq (.t 45) (.k (.val (.int .u8 43)))),g 47 30 false (.pick (.t 42) (.t 46) F),g 48 30 false (.mov (.t 47)),g 49 48 true (.mov (.t 0)),g 50 48 true (.mov (.t 3)),g
 51 48 true (.idx (.t 49) (.t 50)),g 52 48 true (.bin .neq (.t 51) (.k (.val (.int .u8 46)))),g 53 30 false (.pick (.t 48) (.t 52) F),g 54 27 true (.pick (.t 30) T (.t 53)),o 55
 (.pick (.t 27) (.t 54) F)]) (.cond (.t 55) (.seq (.reg [o 2 (.mov F)]) (.ret)) (.skip))))) (.reg [m 13 3,o 14 (.bin .add (.t 13) (i 1)),m 3 14]))))))) (.seq (.reg [o 2 (.mov T)])
 (.ret))))
theorem ok312:j9 Tryz.prog 312 ir312 1 [.t 2]=true:=by kernel_rfl
def ir314:PC:=.seq (.reg [o 2 (.mov F)]) (.seq (.reg [o 3 (.mov T)]) (.seq (.seq (.reg [o 4 (.mov (i 0))]) (.block 0 (.loop (.ghost (.seq (.seq (.reg [m 6 4,m 7 0,o 8 (.lens
 (.t 7)),o 9 (.bin .lss (.t 6) (.t 8))]) (.cond (.t 9) (.skip) (.exit 0))) (.seq (.block 1 (.seq (.reg [m 12 0,m 13 4,o 14 (.idx (.t 12) (.t 13)),o 15 (.bin .geq (.t 14) (.k
 (.val (.int .u8 97)))),m 16 15,g 17 16 true (.mov (.t 0)),g 18 16 true (.mov (.t 4)),g 19 16 true (.idx (.t 17) (.t 18)),g 20 16 true (.bin .leq (.t 19) (.k (.val (.int .u8
 122)))),o 21 (.pick (.t 16) (.t 20) F),m 22 21,g 23 22 false (.mov (.t 0)),g 24 22 false (.mov (.t 4)),g 25 22 false (.idx (.t 23) (.t 24)),g 26 22 false (.call 235 [.t 25]),
 o 27 (.pick (.t 22) T (.t 26)),m 5 27]) (.seq (.seq (.reg [m 28 5,o 29 (.un .not (.t 28)),m 30 29,g 31 30 true (.mov (.t 3)),g 32 30 true (.mov (.t 31)),g 33 32 false (.mov
 (.t 0)),g 34 32 false (.mov (.t 4)),g 35 32 false (.idx (.t 33) (.t 34)),g 36 32 false (.bin .neq (.t 35) (.k (.val (.int .u8 45)))),g 37 32 false (.mov (.t 36)),g 38 37 true
 (.mov (.t 0)),g 39 37 true (.mov (.t 4)),g 40 37 true (.idx (.t 38) (.t 39)),g 41 37 true (.bin .neq (.t 40) (.k (.val (.int .u8 46)))),g 42 32 false (.pick (.t 37) (.t 41) F),
 g 43 30 true (.pick (.t 32) T (.t 42)),o 44 (.pick (.t 30) (.t 43) F)]) (.cond (.t 44) (.seq (.reg [o 2 (.mov F)]) (.ret)) (.skip))) (.reg [m 45 5,o 46 (.un .not (.t 45)),m 3
 46])))) (.reg [m 10 4,o 11 (.bin .add (.t 10) (i 1)),m 4 11]))))))) (.seq (.reg [m 47 3,o 48 (.un .not (.t 47)),m 2 48]) (.ret))))
theorem ok314:j9 Tryz.prog 314 ir314 1 [.t 2]=true:=by kernel_rfl
def ir269:PC:=.seq (.reg [o 2 (.mov (i 0))]) (.seq (.seq (.reg [m 3 0,o 4 (.bin .eql (.t 3) (z #[104,116,116,112]))]) (.cond (.t 4) (.seq (.reg [o 2 (.mov (i 80))]) (.ret))
 (.skip))) (.seq (.reg [o 2 (.mov (i 443))]) (.ret)))
theorem ok269:j9 Tryz.prog 269 ir269 1 [.t 2]=true:=by kernel_rfl
def ir235:PC:=.seq (.reg [o 2 (.mov F)]) (.seq (.reg [m 3 0,o 4 (.bin .geq (.t 3) (.k (.val (.int .u8 48)))),m 5 4,g 6 5 true (.mov (.t 0)),g 7 5 true (.bin .leq (.t 6) (.k
 (.val (.int .u8 57)))),o 8 (.pick (.t 5) (.t 7) F),m 2 8]) (.ret))
theorem ok235:j9 Tryz.prog 235 ir235 1 [.t 2]=true:=by kernel_rfl
def ir137:PC:=.seq (.reg [o 2 (.mov (z #[]))]) (.seq (.seq (.reg [m 3 0,o 4 (.bin .eql (.t 3) (i (-9223372036854775808)))]) (.cond (.t 4) (.seq (.reg [o 2 (.mov (z #[45,57,
 50,50,51,51,55,50,48,51,54,56,53,52,55,55,53,56,48,56]))]) (.ret)) (.skip))) (.seq (.seq (.reg [m 5 0,o 6 (.bin .lss (.t 5) (i 0))]) (.cond (.t 6) (.seq (.reg [m
 7 0,o 8 (.un .neg (.t 7)),o 9 (.call 137 [.t 8]),o 10 (.bin .add (z #[45]) (.t 9)),m 2 10]) (.ret)) (.skip))) (.seq (.seq (.reg [m 11 0,o 12 (.bin .lss (.t 11) (i 10))])
 (.cond (.t 12) (.seq (.reg [m 13 0,o 14 (.bin .add (i 48) (.t 13)),o 15 (.conv .u8 (.t 14)),o 16 (.lit 5 1 [.t 15]),o 17 (.tostr (.t 16)),m 2 17]) (.ret)) (.skip))) (.seq
 (.draw [m 18 0,o 19 (.bin .quo (.t 18) (i 10)),o 20 (.call 137 [.t 19]),m 21 0,o 22 (.bin .rem (.t 21) (i 10)),o 23 (.bin .add (i 48) (.t 22)),o 24 (.conv .u8 (.t 23)),o 25
 (.lit 5 1 [.t 24]),o 26 (.tostr (.t 25)),o 27 (.bin .add (.t 20) (.t 26))] [m 2 27]) (.ret)))))
theorem ok137:j9 Tryz.prog 137 ir137 1 [.t 2]=true:=by kernel_rfl
def ir268_from5:PC:=.seq (.seq (.reg [o 6 (.mov (i 0))]) (.block 0 (.loop (.ghost (.seq (.seq (.reg [m 39 6,m 40 0,o 41 (.lens (.t 40)),o 42 (.bin .lss (.t 39) (.t 41))])
 (.cond (.t 42) (.skip) (.exit 0))) (.seq (.block 1 (.seq (.seq (.reg [m 45 0,m 46 6,o 47 (.idx (.t 45) (.t 46)),o 48 (.bin .lss (.t 47) (.k (.val (.int .u8 48)))),m 49 48,g 50
 49 false (.mov (.t 0)),g 51 49 false (.mov (.t 6)),g 52 49 false (.idx (.t 50) (.t 51)),g 53 49 false (.bin .gtr (.t 52) (.k (.val (.int .u8 57)))),o 54 (.pick (.t 49) T (.t
 53))]) (.cond (.t 54) (.seq (.reg [o 2 (.mov (i 0)),o 3 (.mov F)]) (.ret)) (.skip))) (.reg [m 55 5,o 56 (.bin .mul (.t 55) (i 10)),m 57 0,m 58 6,o 59 (.idx (.t 57) (.t 58)),o
 60 (.conv .i64 (.t 59)),o 61 (.bin .add (.t 56) (.t 60)),o 62 (.bin .sub (.t 61) (i 48)),m 5 62]))) (.reg [m 43 6,o 44 (.bin .add (.t 43) (i 1)),m 6 44]))))))) (.seq (.reg [m
 63 4,m 64 5,o 65 (.bin .mul (.t 63) (.t 64)),m 2 65,o 3 (.mov T)]) (.ret))
def ir268_from3:PC:=.seq (.seq (.reg [m 17 0,o 18 (.lens (.t 17)),o 19 (.bin .eql (.t 18) (i 0)),m 20 19,g 21 20 false (.mov (.t 0)),g 22 20 false (.lens (.t 21)),g 23 20
 false (.bin .gtr (.t 22) (i 18)),o 24 (.pick (.t 20) T (.t 23)),m 25 24,g 26 25 false (.mov (.t 0)),g 27 25 false (.idx (.t 26) (i 0)),g 28 25 false (.bin .eql (.t 27) (.k
 (.val (.int .u8 48)))),g 29 25 false (.mov (.t 28)),g 30 29 true (.mov (.t 0)),g 31 29 true (.lens (.t 30)),g 32 29 true (.bin .gtr (.t 31) (i 1)),g 33 29 true (.mov (.t 32)),
 g 34 33 false (.mov (.t 4)),g 35 33 false (.bin .lss (.t 34) (i 0)),g 36 29 true (.pick (.t 33) T (.t 35)),g 37 25 false (.pick (.t 29) (.t 36) F),o 38 (.pick (.t 25) T (.t
 37))]) (.cond (.t 38) (.seq (.reg [o 2 (.mov (i 0)),o 3 (.mov F)]) (.ret)) (.skip))) (.seq (.reg [o 5 (.mov (i 0))]) (ir268_from5))
def ir268:PC:=.seq (.reg [o 2 (.mov (i 0)),o 3 (.mov F)]) (.seq (.reg [o 4 (.mov (i 1))]) (.seq (.seq (.reg [m 7 0,o 8 (.lens (.t 7)),o 9 (.bin .gtr (.t 8) (i 0)),m 10 9,g
 11 10 true (.mov (.t 0)),g 12 10 true (.idx (.t 11) (i 0)),g 13 10 true (.bin .eql (.t 12) (.k (.val (.int .u8 45)))),o 14 (.pick (.t 10) (.t 13) F)]) (.cond (.t 14) (.seq (.reg
 [o 4 (.mov (i (-1)))]) (.reg [m 15 0,o 16 (.slc 0 (.t 15) (some (i 1)) none),m 0 16])) (.skip))) (ir268_from3)))
theorem ok268:j9 Tryz.prog 268 ir268 1 [.t 2,.t 3]=true:=by kernel_rfl
def ir264:PC:=.seq (.reg [o 1 (.box (.t 0)),o 2 (.mov (z #[]))]) (.seq (.reg [o 4 (.faddr 0 (.t 1)),l 5 4,o 6 (.bin .add (.t 5) (z #[58,47,47])),o 7 (.faddr 2 (.t 1)),l 8
 7,o 9 (.bin .add (.t 6) (.t 8)),m 3 9]) (.seq (.seq (.reg [o 10 (.faddr 3 (.t 1)),l 11 10,o 12 (.bin .gtr (.t 11) (i 0))]) (.cond (.t 12) (.reg [m 13 3,o 14 (.faddr 3 (.t 1)),
 l 15 14,o 16 (.call 137 [.t 15]),o 17 (.bin .add (z #[58]) (.t 16)),o 18 (.bin .add (.t 13) (.t 17)),m 3 18]) (.skip))) (.seq (.reg [m 19 3,m 2 19]) (.ret))))
theorem ok264:j9 Tryz.prog 264 ir264 1 [.t 2]=true:=by kernel_rfl
def ir257_from4:PC:=.seq (.draw [m 25 3,o 26 (.faddr 2 (.t 1)),l 27 26,o 28 (.faddr 3 (.t 1)),l 29 28,o 30 (.build [.val (.str ⟨#[]⟩),.val (.str ⟨#[]⟩),.val (.str ⟨#[]⟩),
 .val (.int .i64 0),.val (.str ⟨#[]⟩),.val (.str ⟨#[]⟩),.val (.str ⟨#[]⟩),.val (.bool false),.val (.bool false)] [(2,1,.t 27),(3,1,.t 29)]),o 31 (.call 264 [.t 30]),o 32
 (.slc 0 (.t 31) (some (i 3)) none),o 33 (.faddr 4 (.t 1)),l 34 33,o 35 (.bin .add (.t 32) (.t 34)),o 36 (.bin .add (.t 25) (.t 35))] [m 3 36]) (.seq (.seq (.reg [o 37 (.faddr 7
 (.t 1)),l 38 37]) (.cond (.t 38) (.reg [m 39 3,o 40 (.faddr 5 (.t 1)),l 41 40,o 42 (.bin .add (z #[63]) (.t 41)),o 43 (.bin .add (.t 39) (.t 42)),m 3 43]) (.skip))) (.seq
 (.seq (.reg [o 44 (.faddr 8 (.t 1)),l 45 44]) (.cond (.t 45) (.reg [m 46 3,o 47 (.faddr 6 (.t 1)),l 48 47,o 49 (.bin .add (z #[35]) (.t 48)),o 50 (.bin .add (.t 46) (.t 49)),
 m 3 50]) (.skip))) (.seq (.reg [m 51 3,m 2 51]) (.ret))))
def ir257:PC:=.seq (.reg [o 1 (.box (.t 0)),o 2 (.mov (z #[]))]) (.seq (.seq (.reg [o 4 (.faddr 0 (.t 1)),l 5 4,o 6 (.call 256 [.t 5]),o 7 (.un .not (.t 6))]) (.cond (.t 7)
 (.seq (.reg [o 8 (.faddr 0 (.t 1)),l 9 8,o 10 (.bin .add (.t 9) (z #[58])),o 11 (.faddr 4 (.t 1)),l 12 11,o 13 (.bin .add (.t 10) (.t 12)),m 2 13]) (.ret)) (.skip))) (.seq
 (.reg [o 14 (.faddr 0 (.t 1)),l 15 14,o 16 (.bin .add (.t 15) (z #[58,47,47])),m 3 16]) (.seq (.seq (.reg [o 17 (.faddr 1 (.t 1)),l 18 17,o 19 (.bin .neq (.t 18) (z #[]))])
 (.cond (.t 19) (.reg [m 20 3,o 21 (.faddr 1 (.t 1)),l 22 21,o 23 (.bin .add (.t 22) (z #[64])),o 24 (.bin .add (.t 20) (.t 23)),m 3 24]) (.skip))) (ir257_from4))))
theorem ok257:j9 Tryz.prog 257 ir257 1 [.t 2]=true:=by kernel_rfl
def ir267_ops1_43:List POper:=[g 46 45 false (.load true 9 (.t 1)),g 47 45 false (.call 257 [.t 46]),g 48 45 false (.lens (.t 47)),g 49 45 false (.bin .gtr (.t 48) (i 100)),
 o 50 (.pick (.t 45) T (.t 49))]
def ir267_ops1_37:List POper:=g 40 39 false (.faddr 6 (.t 1)) :: g 41 39 false (.load false 1 (.t 40)) :: g 42 39 false (.call 313 [.t 41,.k (.val (.str ⟨#[]⟩))]) :: g 43 39
 false (.un .not (.t 42)) :: o 44 (.pick (.t 39) T (.t 43)) :: m 45 44 :: ir267_ops1_43
def ir267_ops1_31:List POper:=g 34 33 false (.faddr 5 (.t 1)) :: g 35 33 false (.load false 1 (.t 34)) :: g 36 33 false (.call 313 [.t 35,.k (.val (.str ⟨#[35]⟩))]) :: g 37 33
 false (.un .not (.t 36)) :: o 38 (.pick (.t 33) T (.t 37)) :: m 39 38 :: ir267_ops1_37
def ir267_ops1_25:List POper:=g 28 27 false (.faddr 4 (.t 1)) :: g 29 27 false (.load false 1 (.t 28)) :: g 30 27 false (.call 313 [.t 29,.k (.val (.str ⟨#[63,35]⟩))]) :: g 31
 27 false (.un .not (.t 30)) :: o 32 (.pick (.t 27) T (.t 31)) :: m 33 32 :: ir267_ops1_31
def ir267_ops1_15:List POper:=g 18 17 false (.faddr 8 (.t 1)) :: g 19 17 false (.load false 1 (.t 18)) :: g 20 17 false (.un .not (.t 19)) :: g 21 17 false (.mov (.t 20)) :: g
 22 21 true (.faddr 6 (.t 1)) :: g 23 21 true (.load false 1 (.t 22)) :: g 24 21 true (.bin .neq (.t 23) (z #[])) :: g 25 17 false (.pick (.t 21) (.t 24) F) :: o 26 (.pick (.t 17) T
 (.t 25)) :: m 27 26 :: ir267_ops1_25
def ir267_from3:PC:=.seq (.draw [o 78 (.faddr 1 (.t 1)),l 79 78,o 80 (.call 313 [.t 79,.k (.val (.str ⟨#[47,63,35,64]⟩))]),m 81 80,g 82 81 true (.faddr 2 (.t 1)),g 83
 81 true (.load false 1 (.t 82)),g 84 81 true (.call 314 [.t 83]),o 85 (.pick (.t 81) (.t 84) F),m 86 85,g 87 86 true (.faddr 3 (.t 1)),g 88 86 true (.load false 1 (.t 87)),g
 89 86 true (.call 108 [.t 88,.k (.val (.int .i64 0)),.k (.val (.int .i64 65535))]),o 90 (.pick (.t 86) (.t 89) F),m 91 90,g 92 91 true (.faddr 3 (.t 1)),g 93 91 true (.load
 false 1 (.t 92)),g 94 91 true (.faddr 0 (.t 1)),g 95 91 true (.load false 1 (.t 94)),g 96 91 true (.call 269 [.t 95]),g 97 91 true (.bin .neq (.t 93) (.t 96)),o 98 (.pick (.t
 91) (.t 97) F),m 99 98,g 100 99 true (.faddr 4 (.t 1)),g 101 99 true (.load false 1 (.t 100)),g 102 99 true (.lens (.t 101)),g 103 99 true (.bin .gtr (.t 102) (i 0)),o 104
 (.pick (.t 99) (.t 103) F),m 105 104,g 106 105 true (.faddr 4 (.t 1)),g 107 105 true (.load false 1 (.t 106)),g 108 105 true (.idx (.t 107) (i 0)),g 109 105 true (.bin .eql
 (.t 108) (.k (.val (.int .u8 47)))),o 110 (.pick (.t 105) (.t 109) F)] [m 2 110]) (.ret)
def ir267_from2:PC:=.seq (.seq (.reg [o 51 (.faddr 0 (.t 1)),l 52 51,o 53 (.call 256 [.t 52]),o 54 (.un .not (.t 53))]) (.cond (.t 54) (.seq (.reg [o 55 (.faddr 1 (.t 1)),l
 56 55,o 57 (.bin .eql (.t 56) (z #[])),m 58 57,g 59 58 true (.faddr 2 (.t 1)),g 60 58 true (.load false 1 (.t 59)),g 61 58 true (.bin .eql (.t 60) (z #[])),o 62 (.pick (.t
 58) (.t 61) F),m 63 62,g 64 63 true (.faddr 3 (.t 1)),g 65 63 true (.load false 1 (.t 64)),g 66 63 true (.bin .eql (.t 65) (i 0)),o 67 (.pick (.t 63) (.t 66) F),m 68 67,g 69
 68 true (.faddr 7 (.t 1)),g 70 68 true (.load false 1 (.t 69)),g 71 68 true (.un .not (.t 70)),o 72 (.pick (.t 68) (.t 71) F),m 73 72,g 74 73 true (.faddr 8 (.t 1)),g 75 73
 true (.load false 1 (.t 74)),g 76 73 true (.un .not (.t 75)),o 77 (.pick (.t 73) (.t 76) F),m 2 77]) (.ret)) (.skip))) (ir267_from3)
def ir267:PC:=.seq (.reg [o 1 (.box (.t 0)),o 2 (.mov F)]) (.seq (.seq (.reg (o 3 (.faddr 0 (.t 1)) :: l 4 3 :: o 5 (.call 312 [.t 4]) :: o 6 (.un .not (.t 5)) :: m 7 6 :: g 8
 7 false (.faddr 7 (.t 1)) :: g 9 7 false (.load false 1 (.t 8)) :: g 10 7 false (.un .not (.t 9)) :: g 11 7 false (.mov (.t 10)) :: g 12 11 true (.faddr 5 (.t 1)) :: g 13 11 true
 (.load false 1 (.t 12)) :: g 14 11 true (.bin .neq (.t 13) (z #[])) :: g 15 7 false (.pick (.t 11) (.t 14) F) :: o 16 (.pick (.t 7) T (.t 15)) :: m 17 16 :: ir267_ops1_15)) (.cond
 (.t 50) (.seq (.reg [o 2 (.mov F)]) (.ret)) (.skip))) (ir267_from2))
theorem ok267:j9 Tryz.prog 267 ir267 1 [.t 2]=true:=by kernel_rfl
end Go.Proofs
end
section
namespace Go.Proofs
open Go.PW Go.PW.I
def ir200_from18:PC:=.seq (.draw [o 149 (.load true 9 (.t 5)),o 150 (.load true 9 (.t 5)),o 151 (.call 267 [.t 150])] [n (.store 9 (.t 2) (.t 149)),m 3 151]) (.ret)
def ir200_from17:PC:=.seq (.seq (.reg [m 122 4,m 123 6,o 124 (.lens (.t 123)),o 125 (.bin .lss (.t 122) (.t 124))]) (.cond (.t 125) (.seq (.reg [m 127 6,m 128 4,o 129 (.bin
 .add (.t 128) (i 1)),o 130 (.slc 0 (.t 127) (some (.t 129)) none),o 131 (.call 268 [.t 130]),m 126 131,o 132 (.ext 0 (.t 126)),o 133 (.ext 1 (.t 126)),m 11 132,m 12 133])
 (.seq (.seq (.reg [m 134 12,o 135 (.un .not (.t 134)),m 136 135,g 137 136 false (.mov (.t 11)),g 138 136 false (.call 108 [.t 137,.k (.val (.int .i64 1)),.k (.val (.int .i64
 65535))]),g 139 136 false (.un .not (.t 138)),o 140 (.pick (.t 136) T (.t 139))]) (.cond (.t 140) (.seq (.reg [o 141 (.build [.val (.str ⟨#[]⟩),.val (.str ⟨#[]⟩),.val (.str
 ⟨#[]⟩),.val (.int .i64 0),.val (.str ⟨#[]⟩),.val (.str ⟨#[]⟩),.val (.str ⟨#[]⟩),.val (.bool false),.val (.bool false)] []),n (.store 9 (.t 2) (.t 141)),o 3 (.mov F)])
 (.ret)) (.skip))) (.seq (.reg [m 142 11,o 143 (.faddr 0 (.t 5)),l 144 143,o 145 (.call 269 [.t 144]),o 146 (.bin .neq (.t 142) (.t 145))]) (.cond (.t 146) (.reg [m 147 11,o
 148 (.faddr 3 (.t 5)),n (.store 1 (.t 148) (.t 147))]) (.skip))))) (.skip))) (ir200_from18)
def ir200_from15:PC:=.seq (.reg [m 115 6,o 116 (.call 265 [.t 115,.k (.val (.int .u8 58))]),m 4 116]) (.seq (.reg [m 117 6,m 118 4,o 119 (.slc 0 (.t 117) none (some (.t
 118))),o 120 (.call 266 [.t 119]),o 121 (.faddr 2 (.t 5)),n (.store 1 (.t 121) (.t 120))]) (ir200_from17))
def ir200_from14:PC:=.seq (.seq (.reg [m 101 6,o 102 (.call 265 [.t 101,.k (.val (.int .u8 64))]),m 10 102]) (.seq (.reg [m 103 10,m 104 6,o 105 (.lens (.t 104)),o 106
 (.bin .lss (.t 103) (.t 105))]) (.cond (.t 106) (.seq (.reg [m 107 6,m 108 10,o 109 (.slc 0 (.t 107) none (some (.t 108))),o 110 (.faddr 1 (.t 5)),n (.store 1 (.t 110) (.t
 109))]) (.reg [m 111 6,m 112 10,o 113 (.bin .add (.t 112) (i 1)),o 114 (.slc 0 (.t 111) (some (.t 113)) none),m 6 114])) (.skip)))) (ir200_from15)
def ir200_from12:PC:=.seq (.seq (.reg [o 94 (.faddr 4 (.t 5)),l 95 94,o 96 (.bin .eql (.t 95) (z #[]))]) (.cond (.t 96) (.reg [o 97 (.faddr 4 (.t 5)),n (.store 1 (.t 97) (z
 #[47]))]) (.skip))) (.seq (.reg [m 98 6,m 99 4,o 100 (.slc 0 (.t 98) none (some (.t 99))),m 6 100]) (ir200_from14))
def ir200_from10:PC:=.seq (.reg [m 88 6,o 89 (.call 265 [.t 88,.k (.val (.int .u8 47))]),m 4 89]) (.seq (.reg [m 90 6,m 91 4,o 92 (.slc 0 (.t 90) (some (.t 91)) none),o 93
 (.faddr 4 (.t 5)),n (.store 1 (.t 93) (.t 92))]) (ir200_from12))
def ir200_from9:PC:=.seq (.seq (.reg [m 73 6,o 74 (.call 265 [.t 73,.k (.val (.int .u8 63))]),m 9 74]) (.seq (.reg [m 75 9,m 76 6,o 77 (.lens (.t 76)),o 78 (.bin .lss (.t
 75) (.t 77))]) (.cond (.t 78) (.seq (.reg [o 79 (.faddr 7 (.t 5)),n (.store 1 (.t 79) T)]) (.seq (.reg [m 80 6,m 81 9,o 82 (.bin .add (.t 81) (i 1)),o 83 (.slc 0 (.t 80) (some
 (.t 82)) none),o 84 (.faddr 5 (.t 5)),n (.store 1 (.t 84) (.t 83))]) (.reg [m 85 6,m 86 9,o 87 (.slc 0 (.t 85) none (some (.t 86))),m 6 87]))) (.skip)))) (ir200_from10)
def ir200_from8:PC:=.seq (.seq (.reg [m 58 6,o 59 (.call 265 [.t 58,.k (.val (.int .u8 35))]),m 8 59]) (.seq (.reg [m 60 8,m 61 6,o 62 (.lens (.t 61)),o 63 (.bin .lss (.t
 60) (.t 62))]) (.cond (.t 63) (.seq (.reg [o 64 (.faddr 8 (.t 5)),n (.store 1 (.t 64) T)]) (.seq (.reg [m 65 6,m 66 8,o 67 (.bin .add (.t 66) (i 1)),o 68 (.slc 0 (.t 65) (some
 (.t 67)) none),o 69 (.faddr 6 (.t 5)),n (.store 1 (.t 69) (.t 68))]) (.reg [m 70 6,m 71 8,o 72 (.slc 0 (.t 70) none (some (.t 71))),m 6 72]))) (.skip)))) (ir200_from9)
def ir200_from5:PC:=.seq (.seq (.reg [o 29 (.faddr 0 (.t 5)),l 30 29,o 31 (.call 256 [.t 30]),o 32 (.un .not (.t 31))]) (.cond (.t 32) (.seq (.reg [m 33 6,o 34 (.call 265
 [.t 33,.k (.val (.int .u8 35))]),m 7 34]) (.seq (.reg [m 35 6,m 36 7,o 37 (.slc 0 (.t 35) none (some (.t 36))),m 6 37]) (.seq (.reg [m 38 6,o 39 (.call 265 [.t 38,.k (.val
 (.int .u8 63))]),m 7 39]) (.seq (.reg [m 40 6,m 41 7,o 42 (.slc 0 (.t 40) none (some (.t 41))),o 43 (.faddr 4 (.t 5)),n (.store 1 (.t 43) (.t 42))]) (.seq (.draw [o 44 (.load
 true 9 (.t 5)),o 45 (.load true 9 (.t 5)),o 46 (.call 267 [.t 45])] [n (.store 9 (.t 2) (.t 44)),m 3 46]) (.ret)))))) (.skip))) (.seq (.seq (.reg [m 47 6,o 48 (.lens (.t 47)),
 o 49 (.bin .lss (.t 48) (i 2)),m 50 49,g 51 50 false (.mov (.t 6)),g 52 50 false (.slc 0 (.t 51) none (some (i 2))),g 53 50 false (.bin .neq (.t 52) (z #[47,47])),o 54 (.pick
 (.t 50) T (.t 53))]) (.cond (.t 54) (.seq (.reg [o 55 (.build [.val (.str ⟨#[]⟩),.val (.str ⟨#[]⟩),.val (.str ⟨#[]⟩),.val (.int .i64 0),.val (.str ⟨#[]⟩),.val (.str ⟨#[]⟩),
 .val (.str ⟨#[]⟩),.val (.bool false),.val (.bool false)] []),n (.store 9 (.t 2) (.t 55)),o 3 (.mov F)]) (.ret)) (.skip))) (.seq (.reg [m 56 6,o 57 (.slc 0 (.t 56) (some (i 2))
 none),m 6 57]) (ir200_from8)))
def ir200:PC:=.seq (.reg [o 2 (.alloc [.val (.str ⟨#[]⟩),.val (.str ⟨#[]⟩),.val (.str ⟨#[]⟩),.val (.int .i64 0),.val (.str ⟨#[]⟩),.val (.str ⟨#[]⟩),.val (.str ⟨#[]⟩),.val
 (.bool false),.val (.bool false)]),o 3 (.mov F)]) (.seq (.reg [m 13 0,o 14 (.call 265 [.t 13,.k (.val (.int .u8 58))]),m 4 14]) (.seq (.seq (.reg [m 15 4,m 16 0,o 17 (.lens
 (.t 16)),o 18 (.bin .eql (.t 15) (.t 17))]) (.cond (.t 18) (.seq (.reg [o 19 (.build [.val (.str ⟨#[]⟩),.val (.str ⟨#[]⟩),.val (.str ⟨#[]⟩),.val (.int .i64 0),.val (.str
 ⟨#[]⟩),.val (.str ⟨#[]⟩),.val (.str ⟨#[]⟩),.val (.bool false),.val (.bool false)] []),n (.store 9 (.t 2) (.t 19)),o 3 (.mov F)]) (.ret)) (.skip))) (.seq (.reg [m 20 0,m 21
 4,o 22 (.slc 0 (.t 20) none (some (.t 21))),o 23 (.call 266 [.t 22]),o 24 (.build [.val (.str ⟨#[]⟩),.val (.str ⟨#[]⟩),.val (.str ⟨#[]⟩),.val (.int .i64 0),.val (.str
 ⟨#[]⟩),.val (.str ⟨#[]⟩),.val (.str ⟨#[]⟩),.val (.bool false),.val (.bool false)] [(0,1,.t 23)]),o 5 (.alloc [.val (.str ⟨#[]⟩),.val (.str ⟨#[]⟩),.val (.str ⟨#[]⟩),.val
 (.int .i64 0),.val (.str ⟨#[]⟩),.val (.str ⟨#[]⟩),.val (.str ⟨#[]⟩),.val (.bool false),.val (.bool false)]),n (.store 9 (.t 5) (.t 24))]) (.seq (.reg [m 25 0,m 26 4,o 27
 (.bin .add (.t 26) (i 1)),o 28 (.slc 0 (.t 25) (some (.t 27)) none),m 6 28]) (ir200_from5)))))
theorem ok200:j9 Tryz.prog 200 ir200 1 [.c 2 true 9,.t 3]=true:=by kernel_rfl
end Go.Proofs
end
section
namespace Go.Proofs
open Go.PW Go.PW.I
def ir114:PC:=.seq (.reg [o 6 (.mov F)]) (.seq (.reg [m 7 1,m 8 0,o 9 (.bin .leq (.t 7) (.t 8)),m 10 9,g 11 10 true (.mov (.t 0)),g 12 10 true (.mov (.t 2)),g 13 10 true
 (.bin .leq (.t 11) (.t 12)),o 14 (.pick (.t 10) (.t 13) F),m 6 14]) (.ret))
theorem ok114:j9 Tryz.prog 114 ir114 3 [.t 6]=true:=by kernel_rfl
def ir72:PC:=.seq (.reg [o 2 (.mov (i 0))]) (.seq (.seq (.reg [m 5 0,o 6 (.len (.t 5)),o 7 (.mov (i 0))]) (.block 0 (.loop (.ghost (.seq (.reg [o 8 (.bin .lss (.t 7) (.t 6))])
 (.seq (.cond (.t 8) (.skip) (.exit 0)) (.seq (.block 1 (.seq (.reg [o 9 (.iaddr 1 (.t 5) (.t 7)),l 10 9,m 4 10]) (.seq (.reg [m 11 4,o 12 (.bin .neq (.t 11) (i 0))]) (.cond (.t
 12) (.seq (.reg [m 13 4,m 2 13]) (.ret)) (.skip))))) (.reg [o 14 (.bin .add (.t 7) (i 1)),m 7 14])))))))) (.seq (.reg [o 2 (.mov (i 0))]) (.ret)))
theorem ok72:j9 Tryz.prog 72 ir72 1 [.t 2]=true:=by kernel_rfl
def ir73:PC:=.seq (.reg [o 4 (.mov (i 0))]) (.seq (.seq (.reg [m 5 0]) (.cond (.t 5) (.seq (.reg [o 4 (.mov (i 0))]) (.ret)) (.skip))) (.seq (.reg [m 6 1,m 4 6]) (.ret)))
theorem ok73:j9 Tryz.prog 73 ir73 2 [.t 4]=true:=by kernel_rfl
def ir154:PC:=.seq (.reg [o 2 (.mov (i 0))]) (.seq (.reg [m 3 0,o 4 (.lens (.t 3)),o 5 (.bin .leq (.t 4) (i 65536)),o 6 (.call 73 [.t 5,.k (.val (.int .i64 2))]),m 2 6])
 (.ret))
theorem ok154:j9 Tryz.prog 154 ir154 1 [.t 2]=true:=by kernel_rfl
def ir203:PC:=.seq (.reg [o 2 (.mov F)]) (.seq (.reg [m 3 0,o 4 (.bin .leq (.k (.val (.int .u8 97))) (.t 3)),m 5 4,g 6 5 true (.mov (.t 0)),g 7 5 true (.bin .leq (.t 6) (.k
 (.val (.int .u8 122)))),o 8 (.pick (.t 5) (.t 7) F),m 2 8]) (.ret))
theorem ok203:j9 Tryz.prog 203 ir203 1 [.t 2]=true:=by kernel_rfl
def ir331:PC:=.seq (.reg [o 2 (.mov F)]) (.seq (.reg [m 3 0,o 4 (.bin .leq (.k (.val (.int .u8 48))) (.t 3)),m 5 4,g 6 5 true (.mov (.t 0)),g 7 5 true (.bin .leq (.t 6) (.k
 (.val (.int .u8 57)))),o 8 (.pick (.t 5) (.t 7) F),m 2 8]) (.ret))
theorem ok331:j9 Tryz.prog 331 ir331 1 [.t 2]=true:=by kernel_rfl
def ir316_o18:List POper:=[g 18 17 true (.mov (.t 3)),g 19 17 true (.bin .eql (.t 18) (i 0)),g 20 17 true (.mov (.t 19)),g 21 20 false (.mov (.t 4)),g 22 20 false (.call 331
 [.t 21]),g 23 20 false (.un .not (.t 22)),g 24 20 false (.mov (.t 23)),g 25 24 true (.mov (.t 4)),g 26 24 true (.bin .neq (.t 25) (.k (.val (.int .u8 45)))),g 27 20 false
 (.pick (.t 24) (.t 26) F),g 28 20 false (.mov (.t 27)),g 29 28 true (.mov (.t 4)),g 30 28 true (.bin .neq (.t 29) (.k (.val (.int .u8 43)))),g 31 20 false (.pick (.t 28) (.t
 30) F),g 32 20 false (.mov (.t 31)),g 33 32 true (.mov (.t 4)),g 34 32 true (.bin .neq (.t 33) (.k (.val (.int .u8 46)))),g 35 20 false (.pick (.t 32) (.t 34) F),g 36 17 true
 (.pick (.t 20) T (.t 35)),o 37 (.pick (.t 17) (.t 36) F)]
def ir316_l9:PC:=.seq (.reg [o 9 (.bin .lss (.t 8) (.t 7))]) (.seq (.cond (.t 9) (.skip) (.exit 0)) (.seq (.block 1 (.seq (.reg [m 10 8,m 3 10]) (.seq (.reg [m 11 0,m 12 3,o
 13 (.idx (.t 11) (.t 12)),m 4 13]) (.seq (.reg (m 14 4 :: o 15 (.call 203 [.t 14]) :: o 16 (.un .not (.t 15)) :: m 17 16 :: ir316_o18)) (.cond (.t 37) (.seq (.reg [o 2 (.mov F)])
 (.ret)) (.skip)))))) (.reg [o 38 (.bin .add (.t 8) (i 1)),m 8 38])))
def ir316:PC:=.seq (.reg [o 2 (.mov F)]) (.seq (.seq (.reg [m 5 0,o 6 (.lens (.t 5)),o 7 (.mn (.t 6) (i 13)),o 8 (.mov (i 0))]) (.block 0 (.loop (.ghost ir316_l9)))) (.seq
 (.reg [m 39 0,o 40 (.lens (.t 39)),o 41 (.call 114 [.t 40,.k (.val (.int .i64 1)),.k (.val (.int .i64 12))]),m 2 41]) (.ret)))
theorem ok316:j9 Tryz.prog 316 ir316 1 [.t 2]=true:=by kernel_rfl
def ir318_o44:List POper:=[g 44 43 false (.mov (.t 0)),g 45 43 false (.mov (.t 3)),g 46 43 false (.bin .sub (.t 45) (i 1)),g 47 43 false (.idx (.t 44) (.t 46)),g 48 43 false
 (.bin .eql (.t 47) (.k (.val (.int .u8 46)))),o 49 (.pick (.t 43) T (.t 48))]
def ir318_o37:List POper:=g 37 36 false (.mov (.t 0)) :: g 38 36 false (.mov (.t 3)) :: g 39 36 false (.bin .sub (.t 38) (i 1)) :: g 40 36 false (.idx (.t 37) (.t 39)) :: g 41
 36 false (.bin .eql (.t 40) (.k (.val (.int .u8 45)))) :: o 42 (.pick (.t 36) T (.t 41)) :: m 43 42 :: ir318_o44
def ir318_o30:List POper:=g 30 29 false (.mov (.t 3)) :: g 31 29 false (.mov (.t 0)) :: g 32 29 false (.lens (.t 31)) :: g 33 29 false (.bin .sub (.t 32) (i 1)) :: g 34 29 false
 (.bin .eql (.t 30) (.t 33)) :: o 35 (.pick (.t 29) T (.t 34)) :: m 36 35 :: ir318_o37
def ir318_o26:List POper:=g 26 25 false (.mov (.t 3)) :: g 27 25 false (.bin .eql (.t 26) (i 0)) :: o 28 (.pick (.t 25) T (.t 27)) :: m 29 28 :: ir318_o30
def ir318_s19:PC:=.seq (.reg (m 19 4 :: o 20 (.bin .neq (.t 19) (.k (.val (.int .u8 45)))) :: m 21 20 :: g 22 21 true (.mov (.t 4)) :: g 23 21 true (.bin .neq (.t 22) (.k (.val
 (.int .u8 46)))) :: o 24 (.pick (.t 21) (.t 23) F) :: m 25 24 :: ir318_o26)) (.cond (.t 49) (.seq (.reg [o 2 (.mov F)]) (.ret)) (.skip))
def ir318_l8:PC:=.seq (.reg [o 8 (.bin .lss (.t 7) (.t 6))]) (.seq (.cond (.t 8) (.skip) (.exit 0)) (.seq (.block 1 (.seq (.reg [m 9 7,m 3 9]) (.seq (.reg [m 10 0,m 11 3,o 12
 (.idx (.t 10) (.t 11)),m 4 12]) (.seq (.seq (.reg [m 13 4,o 14 (.call 203 [.t 13]),m 15 14,g 16 15 false (.mov (.t 4)),g 17 15 false (.call 331 [.t 16]),o 18 (.pick (.t 15) T
 (.t 17))]) (.cond (.t 18) (.exit 1) (.skip))) (ir318_s19))))) (.reg [o 50 (.bin .add (.t 7) (i 1)),m 7 50])))
def ir318:PC:=.seq (.reg [o 2 (.mov F)]) (.seq (.seq (.reg [m 5 0,o 6 (.lens (.t 5)),o 7 (.mov (i 0))]) (.block 0 (.loop (.ghost ir318_l8)))) (.seq (.reg [m 51 0,o 52 (.bin
 .neq (.t 51) (z #[])),m 2 52]) (.ret)))
theorem ok318:j9 Tryz.prog 318 ir318 1 [.t 2]=true:=by kernel_rfl
def ir317:PC:=.seq (.reg [o 2 (.mov F)]) (.seq (.seq (.reg [m 4 0,o 5 (.lens (.t 4)),o 6 (.mov (i 0))]) (.block 0 (.loop (.ghost (.seq (.reg [o 7 (.bin .lss (.t 6) (.t 5))])
 (.seq (.cond (.t 7) (.skip) (.exit 0)) (.seq (.block 1 (.seq (.reg [m 8 6,m 3 8]) (.seq (.reg [m 9 0,m 10 3,o 11 (.idx (.t 9) (.t 10)),o 12 (.conv .i64 (.t 11)),o 13 (.call
 114 [.t 12,.k (.val (.int .i64 33)),.k (.val (.int .i64 126))]),o 14 (.un .not (.t 13))]) (.cond (.t 14) (.seq (.reg [o 2 (.mov F)]) (.ret)) (.skip))))) (.reg [o 15 (.bin .add
 (.t 6) (i 1)),m 6 15])))))))) (.seq (.reg [o 2 (.mov T)]) (.ret)))
theorem ok317:j9 Tryz.prog 317 ir317 1 [.t 2]=true:=by kernel_rfl
def ir261:PC:=.seq (.reg [o 1 (.box (.t 0)),o 2 (.mov F)]) (.seq (.reg [o 3 (.faddr 0 (.t 1)),l 4 3,o 5 (.bin .eql (.t 4) (z #[104,116,116,112])),m 6 5,g 7 6 false
 (.faddr 0 (.t 1)),g 8 6 false (.load false 1 (.t 7)),g 9 6 false (.bin .eql (.t 8) (z #[104,116,116,112,115])),o 10 (.pick (.t 6) T (.t 9)),m 2 10]) (.ret))
theorem ok261:j9 Tryz.prog 261 ir261 1 [.t 2]=true:=by kernel_rfl
def ir277:PC:=.seq (.reg [o 2 (.mov (i 0))]) (.seq (.seq (.reg [m 3 0,o 4 (.bin .eql (.t 3) (z #[104,116,116,112]))]) (.cond (.t 4) (.seq (.reg [o 2 (.mov (i 80))]) (.ret))
 (.skip))) (.seq (.reg [o 2 (.mov (i 443))]) (.ret)))
theorem ok277:j9 Tryz.prog 277 ir277 1 [.t 2]=true:=by kernel_rfl
def ir139:PC:=.seq (.reg [o 2 (.mov (z #[]))]) (.seq (.reg [m 3 0,o 4 (.call 198 [.t 3]),m 2 4]) (.ret))
theorem ok139:j9 Tryz.prog 139 ir139 1 [.t 2]=true:=by kernel_rfl
end Go.Proofs
end
section
namespace Go.Proofs
open Go.PW Go.PW.I
def ir262_from7:PC:=.seq (.seq (.reg [o 41 (.faddr 7 (.t 1)),l 42 41]) (.cond (.t 42) (.reg [m 43 3,o 44 (.faddr 5 (.t 1)),l 45 44,o 46 (.bin .add (z #[63]) (.t 45)),o 47
 (.bin .add (.t 43) (.t 46)),m 3 47]) (.skip))) (.seq (.seq (.reg [o 48 (.faddr 8 (.t 1)),l 49 48]) (.cond (.t 49) (.reg [m 50 3,o 51 (.faddr 6 (.t 1)),l 52 51,o 53 (.bin .add
 (z #[35]) (.t 52)),o 54 (.bin .add (.t 50) (.t 53)),m 3 54]) (.skip))) (.seq (.reg [m 55 3,m 2 55]) (.ret)))
def ir262_from6:PC:=.seq (.reg [m 37 3,o 38 (.faddr 4 (.t 1)),l 39 38,o 40 (.bin .add (.t 37) (.t 39)),m 3 40]) (ir262_from7)
def ir262_from5:PC:=.seq (.seq (.reg [o 28 (.faddr 3 (.t 1)),l 29 28,o 30 (.bin .neq (.t 29) (i 0))]) (.cond (.t 30) (.reg [m 31 3,o 32 (.faddr 3 (.t 1)),l 33 32,o 34
 (.call 139 [.t 33]),o 35 (.bin .add (z #[58]) (.t 34)),o 36 (.bin .add (.t 31) (.t 35)),m 3 36]) (.skip))) (ir262_from6)
def ir262_from4:PC:=.seq (.reg [m 24 3,o 25 (.faddr 2 (.t 1)),l 26 25,o 27 (.bin .add (.t 24) (.t 26)),m 3 27]) (ir262_from5)
def ir262_from2:PC:=.seq (.reg [o 13 (.faddr 0 (.t 1)),l 14 13,o 15 (.bin .add (.t 14) (z #[58,47,47])),m 3 15]) (.seq (.seq (.reg [o 16 (.faddr 1 (.t 1)),l 17 16,o 18
 (.bin .neq (.t 17) (z #[]))]) (.cond (.t 18) (.reg [m 19 3,o 20 (.faddr 1 (.t 1)),l 21 20,o 22 (.bin .add (.t 21) (z #[64])),o 23 (.bin .add (.t 19) (.t 22)),m 3 23])
 (.skip))) (ir262_from4))
def ir262:PC:=.seq (.reg [o 1 (.box (.t 0)),o 2 (.mov (z #[]))]) (.seq (.seq (.reg [o 4 (.load true 9 (.t 1)),o 5 (.call 261 [.t 4]),o 6 (.un .not (.t 5))]) (.cond (.t 6)
 (.seq (.reg [o 7 (.faddr 0 (.t 1)),l 8 7,o 9 (.bin .add (.t 8) (z #[58])),o 10 (.faddr 4 (.t 1)),l 11 10,o 12 (.bin .add (.t 9) (.t 11)),m 2 12]) (.ret)) (.skip)))
 (ir262_from2))
theorem ok262:j9 Tryz.prog 262 ir262 1 [.t 2]=true:=by kernel_rfl
def ir276_from4:PC:=.seq (.reg [m 23 4,m 24 5,o 25 (.isnil true false (.t 24)),m 26 25,g 27 26 true (.mov (.t 6)),g 28 26 true (.bin .leq (.t 27) (i 18)),o 29 (.pick (.t
 26) (.t 28) F),m 30 29,g 31 30 true (.mov (.t 4)),g 32 30 true (.call 198 [.t 31]),g 33 30 true (.mov (.t 0)),g 34 30 true (.bin .eql (.t 32) (.t 33)),o 35 (.pick (.t 30) (.t
 34) F),m 2 23,m 3 35]) (.ret)
def ir276:PC:=.seq (.reg [o 2 (.mov (i 0)),o 3 (.mov F)]) (.seq (.reg [m 8 0,o 9 (.call 322 [.t 8]),m 7 9,o 10 (.ext 0 (.t 7)),o 11 (.ext 1 (.t 7)),m 4 10,m 5 11]) (.seq
 (.reg [m 12 0,o 13 (.lens (.t 12)),m 6 13]) (.seq (.seq (.reg [m 14 0,o 15 (.bin .neq (.t 14) (z #[])),m 16 15,g 17 16 true (.mov (.t 0)),g 18 16 true (.idx (.t 17) (i 0)),g
 19 16 true (.bin .eql (.t 18) (.k (.val (.int .u8 45)))),o 20 (.pick (.t 16) (.t 19) F)]) (.cond (.t 20) (.reg [m 21 6,o 22 (.bin .sub (.t 21) (i 1)),m 6 22]) (.skip)))
 (ir276_from4))))
theorem ok276:j9 Tryz.prog 276 ir276 1 [.t 2,.t 3]=true:=by kernel_rfl
end Go.Proofs
end
section
namespace Go.Proofs
open Go.PW Go.PW.I
def ir273_o36:List POper:=[g 36 35 false (.faddr 1 (.t 1)),g 37 35 false (.load false 1 (.t 36)),g 38 35 false (.faddr 2 (.t 1)),g 39 35 false (.load false 1 (.t 38)),g 40
 35 false (.bin .add (.t 37) (.t 39)),g 41 35 false (.faddr 4 (.t 1)),g 42 35 false (.load false 1 (.t 41)),g 43 35 false (.bin .add (.t 40) (.t 42)),g 44 35 false (.faddr 5 (.t
 1)),g 45 35 false (.load false 1 (.t 44)),g 46 35 false (.bin .add (.t 43) (.t 45)),g 47 35 false (.faddr 6 (.t 1)),g 48 35 false (.load false 1 (.t 47)),g 49 35 false (.bin
 .add (.t 46) (.t 48)),g 50 35 false (.call 317 [.t 49]),g 51 35 false (.un .not (.t 50)),o 52 (.pick (.t 35) T (.t 51))]
def ir273_o30:List POper:=g 30 29 false (.load true 9 (.t 1)) :: g 31 29 false (.call 262 [.t 30]) :: g 32 29 false (.lens (.t 31)) :: g 33 29 false (.bin .gtr (.t 32) (i 100))
 :: o 34 (.pick (.t 29) T (.t 33)) :: m 35 34 :: ir273_o36
def ir273_o109:List POper:=[g 109 108 true (.faddr 8 (.t 1)),g 110 108 true (.load false 1 (.t 109)),g 111 108 true (.mov (.t 110)),g 112 111 false (.faddr 6 (.t 1)),g 113
 111 false (.load false 1 (.t 112)),g 114 111 false (.bin .eql (.t 113) (z #[])),g 115 108 true (.pick (.t 111) T (.t 114)),o 116 (.pick (.t 108) (.t 115) F)]
def ir273_o100:List POper:=g 100 99 true (.faddr 7 (.t 1)) :: g 101 99 true (.load false 1 (.t 100)) :: g 102 99 true (.mov (.t 101)) :: g 103 102 false (.faddr 5 (.t 1)) :: g
 104 102 false (.load false 1 (.t 103)) :: g 105 102 false (.bin .eql (.t 104) (z #[])) :: g 106 99 true (.pick (.t 102) T (.t 105)) :: o 107 (.pick (.t 99) (.t 106) F) :: m 108 107
 :: ir273_o109
def ir273_o94:List POper:=g 94 93 true (.faddr 5 (.t 1)) :: g 95 93 true (.load false 1 (.t 94)) :: g 96 93 true (.call 319 [.t 95,.k (.val (.str ⟨#[35]⟩))]) :: g 97 93 true
 (.un .not (.t 96)) :: o 98 (.pick (.t 93) (.t 97) F) :: m 99 98 :: ir273_o100
def ir273_o89:List POper:=g 89 88 true (.faddr 4 (.t 1)) :: g 90 88 true (.load false 1 (.t 89)) :: g 91 88 true (.call 287 [.t 90,.k (.val (.str ⟨#[47]⟩))]) :: o 92 (.pick (.t
 88) (.t 91) F) :: m 93 92 :: ir273_o94
def ir273_o81:List POper:=g 81 80 true (.faddr 3 (.t 1)) :: g 82 80 true (.load false 1 (.t 81)) :: g 83 80 true (.faddr 0 (.t 1)) :: g 84 80 true (.load false 1 (.t 83)) :: g
 85 80 true (.call 277 [.t 84]) :: g 86 80 true (.bin .neq (.t 82) (.t 85)) :: o 87 (.pick (.t 80) (.t 86) F) :: m 88 87 :: ir273_o89
def ir273_o76:List POper:=g 76 75 true (.faddr 3 (.t 1)) :: g 77 75 true (.load false 1 (.t 76)) :: g 78 75 true (.call 114 [.t 77,.k (.val (.int .i64 0)),.k (.val (.int .i64
 65535))]) :: o 79 (.pick (.t 75) (.t 78) F) :: m 80 79 :: ir273_o81
def ir273_from4:PC:=.seq (.draw (o 66 (.faddr 1 (.t 1)) :: l 67 66 :: o 68 (.call 193 [.t 67,.k (.val (.str ⟨#[47,63,35,64]⟩))]) :: o 69 (.un .not (.t 68)) :: m 70 69 :: g
 71 70 true (.faddr 2 (.t 1)) :: g 72 70 true (.load false 1 (.t 71)) :: g 73 70 true (.call 318 [.t 72]) :: o 74 (.pick (.t 70) (.t 73) F) :: m 75 74 :: ir273_o76) [m 2 116])
 (.ret)
def ir273_from3:PC:=.seq (.seq (.reg [o 56 (.load true 9 (.t 1)),o 57 (.call 261 [.t 56]),o 58 (.un .not (.t 57))]) (.cond (.t 58) (.seq (.reg [o 59 (.load true 9 (.t 1)),o
 60 (.faddr 0 (.t 1)),l 61 60,o 62 (.faddr 4 (.t 1)),l 63 62,o 64 (.build [.val (.str ⟨#[]⟩),.val (.str ⟨#[]⟩),.val (.str ⟨#[]⟩),.val (.int .i64 0),.val (.str ⟨#[]⟩),.val
 (.str ⟨#[]⟩),.val (.str ⟨#[]⟩),.val (.bool false),.val (.bool false)] [(0,1,.t 61),(4,1,.t 63)]),o 65 (.eqs false [0,0,0,2,0,0,0,1,1] (.t 59) (.t 64)),m 2 65])
 (.ret)) (.skip))) (ir273_from4)
def ir273_from2:PC:=.seq (.seq (.reg [o 53 (.faddr 4 (.t 1)),l 54 53,o 55 (.call 193 [.t 54,.k (.val (.str ⟨#[63,35]⟩))])]) (.cond (.t 55) (.seq (.reg [o 2 (.mov F)])
 (.ret)) (.skip))) (ir273_from3)
def ir273:PC:=.seq (.reg [o 1 (.box (.t 0)),o 2 (.mov F)]) (.seq (.seq (.reg (o 3 (.faddr 0 (.t 1)) :: l 4 3 :: o 5 (.call 316 [.t 4]) :: o 6 (.un .not (.t 5)) :: m 7 6 :: g 8
 7 false (.faddr 1 (.t 1)) :: g 9 7 false (.load false 1 (.t 8)) :: g 10 7 false (.lens (.t 9)) :: g 11 7 false (.faddr 2 (.t 1)) :: g 12 7 false (.load false 1 (.t 11)) :: g 13 7
 false (.lens (.t 12)) :: g 14 7 false (.bin .add (.t 10) (.t 13)) :: g 15 7 false (.faddr 4 (.t 1)) :: g 16 7 false (.load false 1 (.t 15)) :: g 17 7 false (.lens (.t 16)) :: g 18
 7 false (.bin .add (.t 14) (.t 17)) :: g 19 7 false (.faddr 5 (.t 1)) :: g 20 7 false (.load false 1 (.t 19)) :: g 21 7 false (.lens (.t 20)) :: g 22 7 false (.bin .add (.t 18) (.t
 21)) :: g 23 7 false (.faddr 6 (.t 1)) :: g 24 7 false (.load false 1 (.t 23)) :: g 25 7 false (.lens (.t 24)) :: g 26 7 false (.bin .add (.t 22) (.t 25)) :: g 27 7 false (.bin
 .gtr (.t 26) (i 100)) :: o 28 (.pick (.t 7) T (.t 27)) :: m 29 28 :: ir273_o30)) (.cond (.t 52) (.seq (.reg [o 2 (.mov F)]) (.ret)) (.skip))) (ir273_from2))
theorem ok273:j9 Tryz.prog 273 ir273 1 [.t 2]=true:=by kernel_rfl
end Go.Proofs
end
section
namespace Go.Proofs
open Go.PW Go.PW.I
def ir207_from15:PC:=.seq (.draw [o 123 (.load true 9 (.t 7)),o 124 (.load true 9 (.t 7)),o 125 (.call 273 [.t 124])] [n (.store 9 (.t 2) (.t 123)),m 3 125]) (.ret)
def ir207_from14:PC:=.seq (.reg [m 120 12,o 121 (.call 272 [.t 120]),o 122 (.faddr 2 (.t 7)),n (.store 1 (.t 122) (.t 121))]) (ir207_from15)
def ir207_from13:PC:=.seq (.seq (.reg [m 99 6]) (.cond (.t 99) (.seq (.reg [m 101 13,o 102 (.call 276 [.t 101]),m 100 102,o 103 (.ext 0 (.t 100)),o 104 (.ext 1 (.t 100)),m
 14 103,m 15 104]) (.seq (.seq (.reg [m 105 15,o 106 (.un .not (.t 105)),m 107 106,g 108 107 false (.mov (.t 14)),g 109 107 false (.call 114 [.t 108,.k (.val (.int .i64 1)),
 .k (.val (.int .i64 65535))]),g 110 107 false (.un .not (.t 109)),o 111 (.pick (.t 107) T (.t 110))]) (.cond (.t 111) (.seq (.reg [o 112 (.build [.val (.str ⟨#[]⟩),.val (.str
 ⟨#[]⟩),.val (.str ⟨#[]⟩),.val (.int .i64 0),.val (.str ⟨#[]⟩),.val (.str ⟨#[]⟩),.val (.str ⟨#[]⟩),.val (.bool false),.val (.bool false)] []),n (.store 9 (.t 2) (.t 112)),o
 3 (.mov F)]) (.ret)) (.skip))) (.seq (.reg [m 113 14,o 114 (.faddr 0 (.t 7)),l 115 114,o 116 (.call 277 [.t 115]),o 117 (.bin .neq (.t 113) (.t 116))]) (.cond (.t 117) (.reg [m
 118 14,o 119 (.faddr 3 (.t 7)),n (.store 1 (.t 119) (.t 118))]) (.skip))))) (.skip))) (ir207_from14)
def ir207_from12:PC:=.seq (.reg [m 94 5,o 95 (.call 271 [.t 94,.k (.val (.str ⟨#[58]⟩))]),m 93 95,o 96 (.ext 0 (.t 93)),o 97 (.ext 1 (.t 93)),o 98 (.ext 2 (.t 93)),m 12
 96,m 13 97,m 6 98]) (ir207_from13)
def ir207_from11:PC:=.seq (.seq (.reg [m 84 5,o 85 (.call 271 [.t 84,.k (.val (.str ⟨#[64]⟩))]),m 83 85,o 86 (.ext 0 (.t 83)),o 87 (.ext 1 (.t 83)),o 88 (.ext 2 (.t 83)),
 m 9 86,m 10 87,m 11 88]) (.seq (.reg [m 89 11]) (.cond (.t 89) (.reg [m 90 9,m 91 10,o 92 (.faddr 1 (.t 7)),n (.store 1 (.t 92) (.t 90)),m 5 91]) (.skip)))) (ir207_from12)
def ir207_from10:PC:=.seq (.seq (.reg [m 72 5,o 73 (.call 275 [.t 72,.k (.val (.int .u8 47))]),m 8 73]) (.seq (.reg [m 74 8,o 75 (.bin .geq (.t 74) (i 0))]) (.cond (.t 75)
 (.draw [m 76 5,m 77 8,o 78 (.slc 0 (.t 76) none (some (.t 77))),m 79 5,m 80 8,o 81 (.slc 0 (.t 79) (some (.t 80)) none),m 5 78] [o 82 (.faddr 4 (.t 7)),n (.store 1 (.t 82)
 (.t 81))]) (.skip)))) (ir207_from11)
def ir207_from7:PC:=.seq (.reg [m 56 5,o 57 (.call 271 [.t 56,.k (.val (.str ⟨#[35]⟩))]),m 55 57,o 58 (.ext 0 (.t 55)),o 59 (.ext 1 (.t 55)),o 60 (.ext 2 (.t 55)),m 5 58,
 o 61 (.faddr 6 (.t 7)),n (.store 1 (.t 61) (.t 59)),o 62 (.faddr 8 (.t 7)),n (.store 1 (.t 62) (.t 60))]) (.seq (.reg [m 64 5,o 65 (.call 271 [.t 64,.k (.val (.str
 ⟨#[63]⟩))]),m 63 65,o 66 (.ext 0 (.t 63)),o 67 (.ext 1 (.t 63)),o 68 (.ext 2 (.t 63)),m 5 66,o 69 (.faddr 5 (.t 7)),n (.store 1 (.t 69) (.t 67)),o 70 (.faddr 7 (.t 7)),n
 (.store 1 (.t 70) (.t 68))]) (.seq (.reg [o 71 (.faddr 4 (.t 7)),n (.store 1 (.t 71) (z #[47]))]) (ir207_from10)))
def ir207_from4:PC:=.seq (.seq (.reg [o 28 (.load true 9 (.t 7)),o 29 (.call 261 [.t 28]),o 30 (.un .not (.t 29))]) (.cond (.t 30) (.seq (.reg [m 32 5,o 33 (.call 271 [.t 32,
 .k (.val (.str ⟨#[35]⟩))]),m 31 33,o 34 (.ext 0 (.t 31)),o 35 (.ext 1 (.t 31)),o 36 (.ext 2 (.t 31)),m 5 34]) (.seq (.reg [m 38 5,o 39 (.call 271 [.t 38,.k (.val (.str
 ⟨#[63]⟩))]),m 37 39,o 40 (.ext 0 (.t 37)),o 41 (.ext 1 (.t 37)),o 42 (.ext 2 (.t 37)),o 43 (.faddr 4 (.t 7)),n (.store 1 (.t 43) (.t 40))]) (.seq (.draw [o 44 (.load true 9
 (.t 7)),o 45 (.load true 9 (.t 7)),o 46 (.call 273 [.t 45])] [n (.store 9 (.t 2) (.t 44)),m 3 46]) (.ret)))) (.skip))) (.seq (.reg [m 48 5,o 49 (.call 274 [.t 48,.k (.val
 (.str ⟨#[47,47]⟩))]),m 47 49,o 50 (.ext 0 (.t 47)),o 51 (.ext 1 (.t 47)),m 5 50,m 6 51]) (.seq (.seq (.reg [m 52 6,o 53 (.un .not (.t 52))]) (.cond (.t 53) (.seq (.reg [o 54
 (.build [.val (.str ⟨#[]⟩),.val (.str ⟨#[]⟩),.val (.str ⟨#[]⟩),.val (.int .i64 0),.val (.str ⟨#[]⟩),.val (.str ⟨#[]⟩),.val (.str ⟨#[]⟩),.val (.bool false),.val (.bool
 false)] []),n (.store 9 (.t 2) (.t 54)),o 3 (.mov F)]) (.ret)) (.skip))) (ir207_from7)))
def ir207:PC:=.seq (.reg [o 2 (.alloc [.val (.str ⟨#[]⟩),.val (.str ⟨#[]⟩),.val (.str ⟨#[]⟩),.val (.int .i64 0),.val (.str ⟨#[]⟩),.val (.str ⟨#[]⟩),.val (.str ⟨#[]⟩),.val
 (.bool false),.val (.bool false)]),o 3 (.mov F)]) (.seq (.reg [m 17 0,o 18 (.call 271 [.t 17,.k (.val (.str ⟨#[58]⟩))]),m 16 18,o 19 (.ext 0 (.t 16)),o 20 (.ext 1 (.t 16)),
 o 21 (.ext 2 (.t 16)),m 4 19,m 5 20,m 6 21]) (.seq (.reg [m 22 4,o 23 (.call 272 [.t 22]),o 24 (.build [.val (.str ⟨#[]⟩),.val (.str ⟨#[]⟩),.val (.str ⟨#[]⟩),.val (.int
 .i64 0),.val (.str ⟨#[]⟩),.val (.str ⟨#[]⟩),.val (.str ⟨#[]⟩),.val (.bool false),.val (.bool false)] [(0,1,.t 23)]),o 7 (.alloc [.val (.str ⟨#[]⟩),.val (.str ⟨#[]⟩),.val
 (.str ⟨#[]⟩),.val (.int .i64 0),.val (.str ⟨#[]⟩),.val (.str ⟨#[]⟩),.val (.str ⟨#[]⟩),.val (.bool false),.val (.bool false)]),n (.store 9 (.t 7) (.t 24))]) (.seq (.seq (.reg
 [m 25 6,o 26 (.un .not (.t 25))]) (.cond (.t 26) (.seq (.reg [o 27 (.build [.val (.str ⟨#[]⟩),.val (.str ⟨#[]⟩),.val (.str ⟨#[]⟩),.val (.int .i64 0),.val (.str ⟨#[]⟩),.val
 (.str ⟨#[]⟩),.val (.str ⟨#[]⟩),.val (.bool false),.val (.bool false)] []),n (.store 9 (.t 2) (.t 27)),o 3 (.mov F)]) (.ret)) (.skip))) (ir207_from4))))
theorem ok207:j9 Tryz.prog 207 ir207 1 [.c 2 true 9,.t 3]=true:=by kernel_rfl
end Go.Proofs
end
section
namespace Go.Proofs
open Go.PW Go.PW.I
def ir205:PC:=.seq (.reg [o 2 (.alloc [.val (.str ⟨#[]⟩),.val (.str ⟨#[]⟩),.val (.str ⟨#[]⟩),.val (.int .i64 0),.val (.str ⟨#[]⟩),.val (.str ⟨#[]⟩),.val (.str ⟨#[]⟩),.val
 (.bool false),.val (.bool false)]),o 3 (.mov (i 0))]) (.seq (.seq (.reg [m 7 0,o 8 (.call 154 [.t 7]),m 4 8]) (.seq (.reg [m 9 4,o 10 (.bin .neq (.t 9) (i 0))]) (.cond (.t 10)
 (.seq (.reg [o 11 (.build [.val (.str ⟨#[]⟩),.val (.str ⟨#[]⟩),.val (.str ⟨#[]⟩),.val (.int .i64 0),.val (.str ⟨#[]⟩),.val (.str ⟨#[]⟩),.val (.str ⟨#[]⟩),.val (.bool false),
 .val (.bool false)] []),m 12 4,n (.store 9 (.t 2) (.t 11)),m 3 12]) (.ret)) (.skip)))) (.seq (.reg [m 14 0,o 15 (.call 207 [.t 14]),m 13 15,o 16 (.ext 0 (.t 13)),o 17 (.ext
 1 (.t 13)),o 5 (.alloc [.val (.str ⟨#[]⟩),.val (.str ⟨#[]⟩),.val (.str ⟨#[]⟩),.val (.int .i64 0),.val (.str ⟨#[]⟩),.val (.str ⟨#[]⟩),.val (.str ⟨#[]⟩),.val (.bool false),
 .val (.bool false)]),n (.store 9 (.t 5) (.t 16)),m 6 17]) (.seq (.seq (.reg [m 18 6,o 19 (.un .not (.t 18))]) (.cond (.t 19) (.seq (.reg [o 20 (.build [.val (.str ⟨#[]⟩),.val
 (.str ⟨#[]⟩),.val (.str ⟨#[]⟩),.val (.int .i64 0),.val (.str ⟨#[]⟩),.val (.str ⟨#[]⟩),.val (.str ⟨#[]⟩),.val (.bool false),.val (.bool false)] []),n (.store 9 (.t 2) (.t
 20)),o 3 (.mov (i 3))]) (.ret)) (.skip))) (.seq (.reg [o 21 (.load true 9 (.t 5)),n (.store 9 (.t 2) (.t 21)),o 3 (.mov (i 0))]) (.ret)))))
theorem ok205:j9 Tryz.prog 205 ir205 1 [.c 2 true 9,.t 3]=true:=by kernel_rfl
def ir196_from4:PC:=.seq (.reg [o 20 (.load true 9 (.t 4)),o 21 (.call 262 [.t 20]),m 2 21,o 3 (.mov T)]) (.ret)
def ir196:PC:=.seq (.reg [o 2 (.mov (z #[])),o 3 (.mov F)]) (.seq (.reg [m 7 0,o 8 (.call 205 [.t 7]),m 6 8,o 9 (.ext 0 (.t 6)),o 10 (.ext 1 (.t 6)),o 4 (.alloc [.val
 (.str ⟨#[]⟩),.val (.str ⟨#[]⟩),.val (.str ⟨#[]⟩),.val (.int .i64 0),.val (.str ⟨#[]⟩),.val (.str ⟨#[]⟩),.val (.str ⟨#[]⟩),.val (.bool false),.val (.bool false)]),n (.store
 9 (.t 4) (.t 9)),m 5 10]) (.seq (.seq (.reg [m 11 5,o 12 (.bin .neq (.t 11) (i 0)),m 13 12,g 14 13 false (.load true 9 (.t 4)),g 15 13 false (.call 261 [.t 14]),g 16 13 false
 (.un .not (.t 15)),o 17 (.pick (.t 13) T (.t 16))]) (.cond (.t 17) (.seq (.reg [o 2 (.mov (z #[])),o 3 (.mov F)]) (.ret)) (.skip))) (.seq (.reg [o 18 (.faddr 6 (.t 4)),n (.store
 1 (.t 18) (z #[])),o 19 (.faddr 8 (.t 4)),n (.store 1 (.t 19) F)]) (ir196_from4))))
theorem ok196:j9 Tryz.prog 196 ir196 1 [.t 2,.t 3]=true:=by kernel_rfl
end Go.Proofs
end
section
namespace Go.Proofs
open Go.PW Go.PW.I
end Go.Proofs
end
section
namespace Go.Proofs
open Go.PW Go.PW.I
def ir234:PC:=.seq (.reg [o 2 (.mov F)]) (.seq (.reg [m 3 0,o 4 (.bin .geq (.t 3) (.k (.val (.int .u8 97)))),m 5 4,g 6 5 true (.mov (.t 0)),g 7 5 true (.bin .leq (.t 6) (.k
 (.val (.int .u8 122)))),o 8 (.pick (.t 5) (.t 7) F),m 9 8,g 10 9 false (.mov (.t 0)),g 11 9 false (.bin .geq (.t 10) (.k (.val (.int .u8 65)))),g 12 9 false (.mov (.t 11)),g
 13 12 true (.mov (.t 0)),g 14 12 true (.bin .leq (.t 13) (.k (.val (.int .u8 90)))),g 15 9 false (.pick (.t 12) (.t 14) F),o 16 (.pick (.t 9) T (.t 15)),m 17 16,g 18 17 false
 (.mov (.t 0)),g 19 17 false (.bin .eql (.t 18) (.k (.val (.int .u8 95)))),o 20 (.pick (.t 17) T (.t 19)),m 2 20]) (.ret))
theorem ok234:j9 Tryz.prog 234 ir234 1 [.t 2]=true:=by kernel_rfl
def ir173:PC:=.seq (.reg [o 2 (.mov F)]) (.seq (.seq (.reg [m 4 0,o 5 (.lens (.t 4)),o 6 (.bin .lss (.t 5) (i 1)),m 7 6,g 8 7 false (.mov (.t 0)),g 9 7 false (.lens (.t
 8)),g 10 7 false (.bin .gtr (.t 9) (i 12)),o 11 (.pick (.t 7) T (.t 10)),m 12 11,g 13 12 false (.mov (.t 0)),g 14 12 false (.idx (.t 13) (i 0)),g 15 12 false (.call 234 [.t
 14]),g 16 12 false (.un .not (.t 15)),o 17 (.pick (.t 12) T (.t 16))]) (.cond (.t 17) (.seq (.reg [o 2 (.mov F)]) (.ret)) (.skip))) (.seq (.seq (.reg [o 3 (.mov (i 1))]) (.block
 0 (.loop (.ghost (.seq (.seq (.reg [m 18 3,m 19 0,o 20 (.lens (.t 19)),o 21 (.bin .lss (.t 18) (.t 20))]) (.cond (.t 21) (.skip) (.exit 0))) (.seq (.block 1 (.seq (.reg [m 24 0,
 m 25 3,o 26 (.idx (.t 24) (.t 25)),o 27 (.call 234 [.t 26]),o 28 (.un .not (.t 27)),m 29 28,g 30 29 true (.mov (.t 0)),g 31 29 true (.mov (.t 3)),g 32 29 true (.idx (.t 30)
 (.t 31)),g 33 29 true (.call 235 [.t 32]),g 34 29 true (.un .not (.t 33)),o 35 (.pick (.t 29) (.t 34) F)]) (.cond (.t 35) (.seq (.reg [o 2 (.mov F)]) (.ret)) (.skip)))) (.reg [m
 22 3,o 23 (.bin .add (.t 22) (i 1)),m 3 23]))))))) (.seq (.reg [o 2 (.mov T)]) (.ret))))
theorem ok173:j9 Tryz.prog 173 ir173 1 [.t 2]=true:=by kernel_rfl
end Go.Proofs
end
section
namespace Go.Proofs
open Go.PW Go.PW.I
def ir185_s36:PC:=.seq (.reg [m 36 5,o 37 (.un .not (.t 36)),m 38 37,g 39 38 true (.mov (.t 3)),g 40 38 true (.bin .eql (.t 39) (i 0)),g 41 38 true (.mov (.t 40)),g 42 41
 false (.mov (.t 4)),g 43 41 false (.bin .lss (.t 42) (.k (.val (.int .u8 48)))),g 44 38 true (.pick (.t 41) T (.t 43)),g 45 38 true (.mov (.t 44)),g 46 45 false (.mov (.t 4)),
 g 47 45 false (.bin .gtr (.t 46) (.k (.val (.int .u8 57)))),g 48 38 true (.pick (.t 45) T (.t 47)),o 49 (.pick (.t 38) (.t 48) F)]) (.cond (.t 49) (.seq (.reg [o 2 (.mov F)])
 (.ret)) (.skip))
def ir185:PC:=.seq (.reg [o 2 (.mov F)]) (.seq (.seq (.reg [m 6 0,o 7 (.lens (.t 6)),o 8 (.call 114 [.t 7,.k (.val (.int .i64 1)),.k (.val (.int .i64 12))]),o 9 (.un .not
 (.t 8))]) (.cond (.t 9) (.seq (.reg [o 2 (.mov F)]) (.ret)) (.skip))) (.seq (.seq (.reg [m 10 0,o 11 (.lens (.t 10)),o 12 (.mov (i 0))]) (.block 0 (.loop (.ghost (.seq (.reg [o
 13 (.bin .lss (.t 12) (.t 11))]) (.seq (.cond (.t 13) (.skip) (.exit 0)) (.seq (.block 1 (.seq (.reg [m 14 12,m 3 14]) (.seq (.reg [m 15 0,m 16 3,o 17 (.idx (.t 15) (.t 16)),m
 4 17]) (.seq (.reg [m 18 4,o 19 (.bin .leq (.k (.val (.int .u8 97))) (.t 18)),m 20 19,g 21 20 true (.mov (.t 4)),g 22 20 true (.bin .leq (.t 21) (.k (.val (.int .u8 122)))),o
 23 (.pick (.t 20) (.t 22) F),m 24 23,g 25 24 false (.mov (.t 4)),g 26 24 false (.bin .leq (.k (.val (.int .u8 65))) (.t 25)),g 27 24 false (.mov (.t 26)),g 28 27 true (.mov
 (.t 4)),g 29 27 true (.bin .leq (.t 28) (.k (.val (.int .u8 90)))),g 30 24 false (.pick (.t 27) (.t 29) F),o 31 (.pick (.t 24) T (.t 30)),m 32 31,g 33 32 false (.mov (.t 4)),
 g 34 32 false (.bin .eql (.t 33) (.k (.val (.int .u8 95)))),o 35 (.pick (.t 32) T (.t 34)),m 5 35]) (ir185_s36))))) (.reg [o 50 (.bin .add (.t 12) (i 1)),m 12 50])))))))) (.seq
 (.reg [o 2 (.mov T)]) (.ret))))
theorem ok185:j9 Tryz.prog 185 ir185 1 [.t 2]=true:=by kernel_rfl
end Go.Proofs
end
section
namespace Go.Proofs
open Go.PW Go.PW.I
def ir135:PC:=.seq (.reg [o 2 (.box (.t 0)),o 3 (.box (.t 1)),o 4 (.mov F)]) (.seq (.seq (.reg [o 5 (.faddr 0 (.t 2)),l 6 5,o 7 (.faddr 0 (.t 3)),l 8 7,o 9 (.bin .neq (.t
 6) (.t 8))]) (.cond (.t 9) (.seq (.reg [o 4 (.mov F)]) (.ret)) (.skip))) (.seq (.seq (.reg [o 10 (.faddr 1 (.t 2)),l 11 10,o 12 (.faddr 1 (.t 3)),l 13 12,o 14 (.bin .neq (.t
 11) (.t 13))]) (.cond (.t 14) (.seq (.reg [o 4 (.mov F)]) (.ret)) (.skip))) (.seq (.seq (.reg [o 15 (.faddr 2 (.t 2)),l 16 15,o 17 (.faddr 2 (.t 3)),l 18 17,o 19 (.bin .neq (.t
 16) (.t 18))]) (.cond (.t 19) (.seq (.reg [o 4 (.mov F)]) (.ret)) (.skip))) (.seq (.reg [o 4 (.mov T)]) (.ret)))))
theorem ok135:j9 Tryz.prog 135 ir135 2 [.t 4]=true:=by kernel_rfl
end Go.Proofs
end
section
namespace Go.Proofs
open Go.PW Go.PW.I
def ir189:PC:=.seq (.reg [o 2 (.mov (z #[])),o 3 (.mov F)]) (.seq (.reg [m 7 0,o 8 (.call 200 [.t 7]),m 6 8,o 9 (.ext 0 (.t 6)),o 10 (.ext 1 (.t 6)),o 4 (.alloc [.val
 (.str ⟨#[]⟩),.val (.str ⟨#[]⟩),.val (.str ⟨#[]⟩),.val (.int .i64 0),.val (.str ⟨#[]⟩),.val (.str ⟨#[]⟩),.val (.str ⟨#[]⟩),.val (.bool false),.val (.bool false)]),n (.store
 9 (.t 4) (.t 9)),m 5 10]) (.seq (.seq (.reg [m 11 5,o 12 (.un .not (.t 11)),m 13 12,g 14 13 false (.faddr 0 (.t 4)),g 15 13 false (.load false 1 (.t 14)),g 16 13 false (.call
 256 [.t 15]),g 17 13 false (.un .not (.t 16)),o 18 (.pick (.t 13) T (.t 17))]) (.cond (.t 18) (.seq (.reg [o 2 (.mov (z #[])),o 3 (.mov F)]) (.ret)) (.skip))) (.seq (.reg [o 19
 (.faddr 8 (.t 4)),n (.store 1 (.t 19) F)]) (.seq (.reg [o 20 (.faddr 6 (.t 4)),n (.store 1 (.t 20) (z #[]))]) (.seq (.reg [o 21 (.load true 9 (.t 4)),o 22 (.call 257 [.t 21]),m
 2 22,o 3 (.mov T)]) (.ret))))))
theorem ok189:j9 Tryz.prog 189 ir189 1 [.t 2,.t 3]=true:=by kernel_rfl
def ir124:PC:=.seq (.reg [o 2 (.mov F)]) (.seq (.seq (.reg [m 4 0,o 5 (.lens (.t 4)),o 6 (.call 108 [.t 5,.k (.val (.int .i64 1)),.k (.val (.int .i64 24))]),o 7 (.un .not
 (.t 6))]) (.cond (.t 7) (.seq (.reg [o 2 (.mov F)]) (.ret)) (.skip))) (.seq (.seq (.reg [o 3 (.mov (i 0))]) (.block 0 (.loop (.ghost (.seq (.seq (.reg [m 8 3,m 9 0,o 10 (.lens
 (.t 9)),o 11 (.bin .lss (.t 8) (.t 10))]) (.cond (.t 11) (.skip) (.exit 0))) (.seq (.block 1 (.seq (.reg [m 14 0,m 15 3,o 16 (.idx (.t 14) (.t 15)),o 17 (.bin .lss (.t 16) (.k
 (.val (.int .u8 97)))),m 18 17,g 19 18 false (.mov (.t 0)),g 20 18 false (.mov (.t 3)),g 21 18 false (.idx (.t 19) (.t 20)),g 22 18 false (.bin .gtr (.t 21) (.k (.val (.int
 .u8 122)))),o 23 (.pick (.t 18) T (.t 22)),m 24 23,g 25 24 true (.mov (.t 0)),g 26 24 true (.mov (.t 3)),g 27 24 true (.idx (.t 25) (.t 26)),g 28 24 true (.bin .neq (.t 27)
 (.k (.val (.int .u8 45)))),g 29 24 true (.mov (.t 28)),g 30 29 false (.mov (.t 3)),g 31 29 false (.bin .eql (.t 30) (i 0)),g 32 24 true (.pick (.t 29) T (.t 31)),o 33 (.pick
 (.t 24) (.t 32) F)]) (.cond (.t 33) (.seq (.reg [o 2 (.mov F)]) (.ret)) (.skip)))) (.reg [m 12 3,o 13 (.bin .add (.t 12) (i 1)),m 3 13]))))))) (.seq (.reg [o 2 (.mov T)])
 (.ret))))
theorem ok124:j9 Tryz.prog 124 ir124 1 [.t 2]=true:=by kernel_rfl
def ir188:PC:=.seq (.reg [o 2 (.mov F)]) (.seq (.reg [m 3 0,o 4 (.bin .eql (.t 3) (.k (.val (.int .u8 32)))),m 5 4,g 6 5 false (.mov (.t 0)),g 7 5 false (.bin .eql (.t 6)
 (.k (.val (.int .u8 9)))),o 8 (.pick (.t 5) T (.t 7)),m 2 8]) (.ret))
theorem ok188:j9 Tryz.prog 188 ir188 1 [.t 2]=true:=by kernel_rfl
def ir126:PC:=.seq (.reg [o 2 (.mov F)]) (.seq (.seq (.reg [o 3 (.mov (i 0))]) (.block 0 (.loop (.ghost (.seq (.seq (.reg [m 4 3,m 5 0,o 6 (.lens (.t 5)),o 7 (.bin .lss (.t
 4) (.t 6))]) (.cond (.t 7) (.skip) (.exit 0))) (.seq (.block 1 (.seq (.reg [m 10 0,m 11 3,o 12 (.idx (.t 10) (.t 11)),o 13 (.call 188 [.t 12]),m 14 13,g 15 14 false (.mov (.t
 0)),g 16 14 false (.mov (.t 3)),g 17 14 false (.idx (.t 15) (.t 16)),g 18 14 false (.bin .eql (.t 17) (.k (.val (.int .u8 59)))),o 19 (.pick (.t 14) T (.t 18))]) (.cond (.t 19)
 (.seq (.reg [o 2 (.mov F)]) (.ret)) (.skip)))) (.reg [m 8 3,o 9 (.bin .add (.t 8) (i 1)),m 3 9]))))))) (.seq (.reg [m 20 0,o 21 (.lens (.t 20)),o 22 (.bin .gtr (.t 21) (i 0)),
 m 2 22]) (.ret)))
theorem ok126:j9 Tryz.prog 126 ir126 1 [.t 2]=true:=by kernel_rfl
def ir125:PC:=.seq (.reg [o 4 (.mov (i 0))]) (.seq (.seq (.reg [o 5 (.mov (i 0))]) (.block 0 (.loop (.ghost (.seq (.seq (.reg [m 6 5,m 7 0,o 8 (.len (.t 7)),o 9 (.bin .lss
 (.t 6) (.t 8))]) (.cond (.t 9) (.skip) (.exit 0))) (.seq (.block 1 (.seq (.reg [m 12 0,m 13 5,o 14 (.iaddr 2 (.t 12) (.t 13)),o 15 (.faddr 0 (.t 14)),l 16 15,m 17 1,o 18
 (.bin .eql (.t 16) (.t 17))]) (.cond (.t 18) (.seq (.reg [m 19 5,m 4 19]) (.ret)) (.skip)))) (.reg [m 10 5,o 11 (.bin .add (.t 10) (i 1)),m 5 11]))))))) (.seq (.reg [o 4 (.mov
 (i (-1)))]) (.ret)))
theorem ok125:j9 Tryz.prog 125 ir125 2 [.t 4]=true:=by kernel_rfl
def ir190:PC:=.seq (.reg [o 4 (.mov F)]) (.seq (.seq (.reg [o 5 (.mov (i 0))]) (.block 0 (.loop (.ghost (.seq (.seq (.reg [m 6 5,m 7 0,o 8 (.len (.t 7)),o 9 (.bin .lss (.t 6)
 (.t 8))]) (.cond (.t 9) (.skip) (.exit 0))) (.seq (.block 1 (.seq (.reg [m 12 0,m 13 5,o 14 (.iaddr 1 (.t 12) (.t 13)),l 15 14,m 16 1,o 17 (.bin .eql (.t 15) (.t 16))]) (.cond
 (.t 17) (.seq (.reg [o 4 (.mov T)]) (.ret)) (.skip)))) (.reg [m 10 5,o 11 (.bin .add (.t 10) (i 1)),m 5 11]))))))) (.seq (.reg [o 4 (.mov F)]) (.ret)))
theorem ok190:j9 Tryz.prog 190 ir190 2 [.t 4]=true:=by kernel_rfl
def ir128:PC:=.seq (.reg [o 4 (.mov F)]) (.seq (.seq (.reg [m 6 0,o 7 (.len (.t 6)),m 8 1,o 9 (.len (.t 8)),o 10 (.bin .neq (.t 7) (.t 9))]) (.cond (.t 10) (.seq (.reg [o 4
 (.mov F)]) (.ret)) (.skip))) (.seq (.seq (.reg [o 5 (.mov (i 0))]) (.block 0 (.loop (.ghost (.seq (.seq (.reg [m 11 5,m 12 0,o 13 (.len (.t 12)),o 14 (.bin .lss (.t 11) (.t
 13))]) (.cond (.t 14) (.skip) (.exit 0))) (.seq (.block 1 (.seq (.draw [m 17 0,m 18 5,o 19 (.iaddr 1 (.t 17) (.t 18)),l 20 19,m 21 1,m 22 5,o 23 (.iaddr 1 (.t 21) (.t 22)),l
 24 23] [o 25 (.bin .neq (.t 20) (.t 24))]) (.cond (.t 25) (.seq (.reg [o 4 (.mov F)]) (.ret)) (.skip)))) (.reg [m 15 5,o 16 (.bin .add (.t 15) (i 1)),m 5 16]))))))) (.seq (.reg
 [o 4 (.mov T)]) (.ret))))
theorem ok128:j9 Tryz.prog 128 ir128 2 [.t 4]=true:=by kernel_rfl
def ir127_from4:PC:=.seq (.reg [o 89 (.load true 3 (.t 3)),n (.store 3 (.t 2) (.t 89))]) (.ret)
def ir127_from3:PC:=.seq (.seq (.reg [m 43 0,o 44 (.call 125 [.t 43,.k (.val (.str ⟨#[114,101,112,111,114,116,45,117,114,105]⟩))]),m 5 44]) (.seq (.reg [m 45 5,o 46
 (.bin .geq (.t 45) (i 0))]) (.cond (.t 46) (.seq (.reg [o 6 (.mov (i 0))]) (.block 0 (.loop (.ghost (.seq (.seq (.reg [m 47 6,m 48 0,m 49 5,o 50 (.iaddr 2 (.t 48) (.t 49)),o 51
 (.faddr 1 (.t 50)),l 52 51,o 53 (.len (.t 52)),o 54 (.bin .lss (.t 47) (.t 53))]) (.cond (.t 54) (.skip) (.exit 0))) (.seq (.block 1 (.seq (.reg [m 58 0,m 59 5,o 60 (.iaddr 2
 (.t 58) (.t 59)),o 61 (.faddr 1 (.t 60)),l 62 61,m 63 6,o 64 (.iaddr 1 (.t 62) (.t 63)),l 65 64,o 66 (.call 189 [.t 65]),m 57 66,o 67 (.ext 0 (.t 57)),o 68 (.ext 1 (.t
 57)),m 7 67,m 8 68]) (.seq (.reg [m 69 8,m 70 69,g 71 70 true (.faddr 1 (.t 3)),g 72 70 true (.load false 1 (.t 71)),g 73 70 true (.mov (.t 7)),g 74 70 true (.call 190 [.t
 72,.t 73]),g 75 70 true (.un .not (.t 74)),o 76 (.pick (.t 70) (.t 75) F),m 77 76,g 78 77 true (.faddr 1 (.t 3)),g 79 77 true (.load false 1 (.t 78)),g 80 77 true (.len (.t
 79)),g 81 77 true (.bin .lss (.t 80) (i 4)),o 82 (.pick (.t 77) (.t 81) F)]) (.cond (.t 82) (.reg [o 83 (.faddr 1 (.t 3)),l 84 83,m 85 7,o 86 (.lit 9 1 [.t 85]),o 87 (.app 9
 1 16 (.t 84) (.t 86)),o 88 (.faddr 1 (.t 3)),n (.store 1 (.t 88) (.t 87))]) (.skip))))) (.reg [m 55 6,o 56 (.bin .add (.t 55) (i 1)),m 6 56]))))))) (.skip)))) (ir127_from4)
def ir127:PC:=.seq (.reg [o 2 (.alloc [.val (.str ⟨#[]⟩),.emp 1,.emp 2])]) (.seq (.reg [o 9 (.lit 9 1 []),m 10 0,o 11 (.build [.val (.str ⟨#[]⟩),.emp 1,.emp 2] [(1,1,.t
 9),(2,1,.t 10)]),o 3 (.alloc [.val (.str ⟨#[]⟩),.emp 1,.emp 2]),n (.store 3 (.t 3) (.t 11))]) (.seq (.seq (.reg [m 12 0,o 13 (.call 125 [.t 12,.k (.val (.str ⟨#[114,101,
 112,111,114,116,45,116,111]⟩))]),m 4 13]) (.seq (.reg [m 14 4,o 15 (.bin .geq (.t 14) (i 0)),m 16 15,g 17 16 true (.mov (.t 0)),g 18 16 true (.mov (.t 4)),g 19 16 true
 (.iaddr 2 (.t 17) (.t 18)),g 20 16 true (.faddr 1 (.t 19)),g 21 16 true (.load false 1 (.t 20)),g 22 16 true (.len (.t 21)),g 23 16 true (.bin .gtr (.t 22) (i 0)),o 24 (.pick
 (.t 16) (.t 23) F),m 25 24,g 26 25 true (.mov (.t 0)),g 27 25 true (.mov (.t 4)),g 28 25 true (.iaddr 2 (.t 26) (.t 27)),g 29 25 true (.faddr 1 (.t 28)),g 30 25 true (.load
 false 1 (.t 29)),g 31 25 true (.iaddr 1 (.t 30) (i 0)),g 32 25 true (.load false 1 (.t 31)),g 33 25 true (.call 173 [.t 32]),o 34 (.pick (.t 25) (.t 33) F)]) (.cond (.t 34)
 (.reg [m 35 0,m 36 4,o 37 (.iaddr 2 (.t 35) (.t 36)),o 38 (.faddr 1 (.t 37)),l 39 38,o 40 (.iaddr 1 (.t 39) (i 0)),l 41 40,o 42 (.faddr 0 (.t 3)),n (.store 1 (.t 42) (.t
 41))]) (.skip)))) (ir127_from3)))
theorem ok127:j9 Tryz.prog 127 ir127 1 [.c 2 true 3]=true:=by kernel_rfl
def ir68_l42:PC:=.seq (.seq (.reg [m 42 5,o 43 (.faddr 1 (.t 4)),l 44 43,o 45 (.len (.t 44)),o 46 (.bin .lss (.t 42) (.t 45))]) (.cond (.t 46) (.skip) (.exit 2))) (.seq
 (.block 3 (.seq (.reg [o 49 (.faddr 1 (.t 4)),l 50 49,m 51 5,o 52 (.iaddr 1 (.t 50) (.t 51)),l 53 52,o 54 (.call 126 [.t 53]),o 55 (.un .not (.t 54))]) (.cond (.t 55) (.seq
 (.reg [o 2 (.mov F)]) (.ret)) (.skip)))) (.reg [m 47 5,o 48 (.bin .add (.t 47) (i 1)),m 5 48]))
def ir68_s42:PC:=.block 2 (.loop (.ghost ir68_l42))
def ir68_l11:PC:=.seq (.seq (.reg [m 11 3,o 12 (.faddr 2 (.t 1)),l 13 12,o 14 (.len (.t 13)),o 15 (.bin .lss (.t 11) (.t 14))]) (.cond (.t 15) (.skip) (.exit 0))) (.seq
 (.block 1 (.seq (.reg [o 18 (.faddr 2 (.t 1)),l 19 18,m 20 3,o 21 (.iaddr 2 (.t 19) (.t 20)),o 22 (.load true 2 (.t 21)),o 4 (.alloc [.val (.str ⟨#[]⟩),.emp 1]),n (.store 2
 (.t 4) (.t 22))]) (.seq (.seq (.reg [o 23 (.faddr 0 (.t 4)),l 24 23,o 25 (.call 124 [.t 24]),o 26 (.un .not (.t 25)),m 27 26,g 28 27 false (.faddr 2 (.t 1)),g 29 27 false
 (.load false 1 (.t 28)),g 30 27 false (.faddr 0 (.t 4)),g 31 27 false (.load false 1 (.t 30)),g 32 27 false (.call 125 [.t 29,.t 31]),g 33 27 false (.mov (.t 3)),g 34 27
 false (.bin .neq (.t 32) (.t 33)),o 35 (.pick (.t 27) T (.t 34)),m 36 35,g 37 36 false (.faddr 1 (.t 4)),g 38 36 false (.load false 1 (.t 37)),g 39 36 false (.len (.t 38)),g
 40 36 false (.bin .gtr (.t 39) (i 8)),o 41 (.pick (.t 36) T (.t 40))]) (.cond (.t 41) (.seq (.reg [o 2 (.mov F)]) (.ret)) (.skip))) (.seq (.reg [o 5 (.mov (i 0))]) (ir68_s42)))))
 (.reg [m 16 3,o 17 (.bin .add (.t 16) (i 1)),m 3 17]))
def ir68_from3:PC:=.seq (.reg [o 56 (.faddr 2 (.t 1)),l 57 56,o 58 (.call 127 [.t 57]),o 6 (.alloc [.val (.str ⟨#[]⟩),.emp 1,.emp 2]),n (.store 3 (.t 6) (.t 58))]) (.seq
 (.reg [o 59 (.faddr 0 (.t 1)),l 60 59,o 61 (.faddr 0 (.t 6)),l 62 61,o 63 (.bin .eql (.t 60) (.t 62)),m 64 63,g 65 64 true (.faddr 1 (.t 1)),g 66 64 true (.load false 1 (.t
 65)),g 67 64 true (.faddr 1 (.t 6)),g 68 64 true (.load false 1 (.t 67)),g 69 64 true (.call 128 [.t 66,.t 68]),o 70 (.pick (.t 64) (.t 69) F),m 2 70]) (.ret))
def ir68:PC:=.seq (.reg [o 1 (.box (.t 0)),o 2 (.mov F)]) (.seq (.seq (.reg [o 7 (.faddr 2 (.t 1)),l 8 7,o 9 (.len (.t 8)),o 10 (.bin .gtr (.t 9) (i 8))]) (.cond (.t 10)
 (.seq (.reg [o 2 (.mov F)]) (.ret)) (.skip))) (.seq (.seq (.reg [o 3 (.mov (i 0))]) (.block 0 (.loop (.ghost ir68_l11)))) (ir68_from3)))
theorem ok68:j9 Tryz.prog 68 ir68 1 [.t 2]=true:=by kernel_rfl
end Go.Proofs
end
section
namespace Go.Proofs
open Go.PW Go.PW.I
def ir66:PC:=.seq (.reg [o 4 (.mov (i 0))]) (.seq (.reg [m 6 1,m 7 0,o 8 (.len (.t 7)),o 9 (.bin .sub (.t 6) (.t 8)),m 1 9]) (.seq (.seq (.reg [m 10 1,o 11 (.bin .lss (.t
 10) (i 0))]) (.cond (.t 11) (.seq (.reg [o 4 (.mov (i (-1)))]) (.ret)) (.skip))) (.seq (.seq (.reg [o 5 (.mov (i 0))]) (.block 0 (.loop (.ghost (.seq (.seq (.reg [m 12 5,m 13 0,o
 14 (.len (.t 13)),o 15 (.bin .lss (.t 12) (.t 14))]) (.cond (.t 15) (.skip) (.exit 0))) (.seq (.block 1 (.seq (.reg [m 18 1,m 19 0,m 20 5,o 21 (.iaddr 1 (.t 19) (.t 20)),l 22
 21,o 23 (.lens (.t 22)),o 24 (.bin .sub (.t 18) (.t 23)),m 1 24]) (.seq (.reg [m 25 1,o 26 (.bin .lss (.t 25) (i 0))]) (.cond (.t 26) (.seq (.reg [o 4 (.mov (i (-1)))]) (.ret))
 (.skip))))) (.reg [m 16 5,o 17 (.bin .add (.t 16) (i 1)),m 5 17]))))))) (.seq (.reg [m 27 1,m 4 27]) (.ret)))))
theorem ok66:j9 Tryz.prog 66 ir66 2 [.t 4]=true:=by kernel_rfl
def ir123:PC:=.seq (.reg [o 2 (.box (.t 0)),o 4 (.mov (i 0))]) (.seq (.reg [m 5 1,o 6 (.faddr 0 (.t 2)),l 7 6,o 8 (.lens (.t 7)),o 9 (.bin .sub (.t 5) (.t 8)),m 1 9])
 (.seq (.seq (.reg [m 10 1,o 11 (.bin .lss (.t 10) (i 0))]) (.cond (.t 11) (.seq (.reg [o 4 (.mov (i (-1)))]) (.ret)) (.skip))) (.seq (.reg [o 12 (.faddr 1 (.t 2)),l 13 12,m 14
 1,o 15 (.call 66 [.t 13,.t 14]),m 1 15]) (.seq (.seq (.reg [m 16 1,o 17 (.bin .lss (.t 16) (i 0))]) (.cond (.t 17) (.seq (.reg [o 4 (.mov (i (-1)))]) (.ret)) (.skip))) (.seq
 (.reg [m 18 1,m 4 18]) (.ret))))))
theorem ok123:j9 Tryz.prog 123 ir123 2 [.t 4]=true:=by kernel_rfl
def ir67:PC:=.seq (.reg [o 4 (.mov (i 0))]) (.seq (.reg [m 6 1,m 7 0,o 8 (.len (.t 7)),o 9 (.bin .sub (.t 6) (.t 8)),m 1 9]) (.seq (.seq (.reg [m 10 1,o 11 (.bin .lss (.t
 10) (i 0))]) (.cond (.t 11) (.seq (.reg [o 4 (.mov (i (-1)))]) (.ret)) (.skip))) (.seq (.seq (.reg [o 5 (.mov (i 0))]) (.block 0 (.loop (.ghost (.seq (.seq (.reg [m 12 5,m 13 0,o
 14 (.len (.t 13)),o 15 (.bin .lss (.t 12) (.t 14))]) (.cond (.t 15) (.skip) (.exit 0))) (.seq (.block 1 (.seq (.reg [m 18 0,m 19 5,o 20 (.iaddr 2 (.t 18) (.t 19)),o 21 (.load
 true 2 (.t 20)),m 22 1,o 23 (.call 123 [.t 21,.t 22]),m 1 23]) (.seq (.reg [m 24 1,o 25 (.bin .lss (.t 24) (i 0))]) (.cond (.t 25) (.seq (.reg [o 4 (.mov (i (-1)))]) (.ret))
 (.skip))))) (.reg [m 16 5,o 17 (.bin .add (.t 16) (i 1)),m 5 17]))))))) (.seq (.reg [m 26 1,m 4 26]) (.ret)))))
theorem ok67:j9 Tryz.prog 67 ir67 2 [.t 4]=true:=by kernel_rfl
def ir20:PC:=.seq (.reg [o 2 (.box (.t 0)),o 4 (.mov (i 0))]) (.seq (.reg [m 5 1,o 6 (.faddr 0 (.t 2)),l 7 6,o 8 (.lens (.t 7)),o 9 (.bin .sub (.t 5) (.t 8)),m 1 9]) (.seq
 (.seq (.reg [m 10 1,o 11 (.bin .lss (.t 10) (i 0))]) (.cond (.t 11) (.seq (.reg [o 4 (.mov (i (-1)))]) (.ret)) (.skip))) (.seq (.reg [o 12 (.faddr 1 (.t 2)),l 13 12,m 14 1,o 15
 (.call 66 [.t 13,.t 14]),m 1 15]) (.seq (.seq (.reg [m 16 1,o 17 (.bin .lss (.t 16) (i 0))]) (.cond (.t 17) (.seq (.reg [o 4 (.mov (i (-1)))]) (.ret)) (.skip))) (.seq (.reg [o
 18 (.faddr 2 (.t 2)),l 19 18,m 20 1,o 21 (.call 67 [.t 19,.t 20]),m 1 21]) (.seq (.seq (.reg [m 22 1,o 23 (.bin .lss (.t 22) (i 0))]) (.cond (.t 23) (.seq (.reg [o 4 (.mov (i
 (-1)))]) (.ret)) (.skip))) (.seq (.reg [m 24 1,m 4 24]) (.ret))))))))
theorem ok20:j9 Tryz.prog 20 ir20 2 [.t 4]=true:=by kernel_rfl
def ir70:PC:=.seq (.reg [o 2 (.mov (.k (.emp 1)))]) (.seq (.reg [m 5 0,o 6 (.len (.t 5)),o 7 (.mks 9 1 16 false [.val (.str ⟨#[]⟩)] (.t 6)),m 3 7]) (.seq (.seq (.reg [o 4
 (.mov (i 0))]) (.block 0 (.loop (.ghost (.seq (.seq (.reg [m 8 4,m 9 0,o 10 (.len (.t 9)),o 11 (.bin .lss (.t 8) (.t 10))]) (.cond (.t 11) (.skip) (.exit 0))) (.seq (.block 1
 (.reg [m 14 3,m 15 4,m 16 0,m 17 4,o 18 (.iaddr 1 (.t 16) (.t 17)),l 19 18,o 20 (.iaddr 1 (.t 14) (.t 15)),n (.store 1 (.t 20) (.t 19))])) (.reg [m 12 4,o 13 (.bin .add (.t
 12) (i 1)),m 4 13]))))))) (.seq (.reg [m 21 3,m 2 21]) (.ret))))
theorem ok70:j9 Tryz.prog 70 ir70 1 [.t 2]=true:=by kernel_rfl
def ir129:PC:=.seq (.reg [o 1 (.box (.t 0)),o 2 (.alloc [.val (.str ⟨#[]⟩),.emp 1])]) (.seq (.reg [o 3 (.alloc [.val (.str ⟨#[]⟩),.emp 1])]) (.seq (.reg [o 4 (.faddr 0 (.t
 1)),l 5 4,o 6 (.faddr 0 (.t 3)),n (.store 1 (.t 6) (.t 5))]) (.seq (.reg [o 7 (.faddr 1 (.t 1)),l 8 7,o 9 (.call 70 [.t 8]),o 10 (.faddr 1 (.t 3)),n (.store 1 (.t 10) (.t
 9))]) (.seq (.reg [o 11 (.load true 2 (.t 3)),n (.store 2 (.t 2) (.t 11))]) (.ret)))))
theorem ok129:j9 Tryz.prog 129 ir129 1 [.c 2 true 2]=true:=by kernel_rfl
def ir22:PC:=.seq (.reg [o 1 (.box (.t 0)),o 2 (.alloc [.val (.str ⟨#[]⟩),.emp 1,.emp 2])]) (.seq (.reg [o 3 (.alloc [.val (.str ⟨#[]⟩),.emp 1,.emp 2])]) (.seq (.reg [o 4
 (.faddr 0 (.t 1)),l 5 4,o 6 (.faddr 0 (.t 3)),n (.store 1 (.t 6) (.t 5))]) (.seq (.reg [o 7 (.faddr 1 (.t 1)),l 8 7,o 9 (.call 70 [.t 8]),o 10 (.faddr 1 (.t 3)),n (.store 1
 (.t 10) (.t 9))]) (.seq (.reg [o 11 (.faddr 2 (.t 1)),l 12 11,o 13 (.call 71 [.t 12]),o 14 (.faddr 2 (.t 3)),n (.store 1 (.t 14) (.t 13))]) (.seq (.reg [o 15 (.load true 3 (.t
 3)),n (.store 3 (.t 2) (.t 15))]) (.ret))))))
theorem ok22:j9 Tryz.prog 22 ir22 1 [.c 2 true 3]=true:=by kernel_rfl
def ir31:PC:=.seq (.reg [o 4 (.mov F)]) (.seq (.seq (.reg [m 6 0,o 7 (.len (.t 6)),m 8 1,o 9 (.len (.t 8)),o 10 (.bin .neq (.t 7) (.t 9))]) (.cond (.t 10) (.seq (.reg [o 4
 (.mov F)]) (.ret)) (.skip))) (.seq (.seq (.reg [o 5 (.mov (i 0))]) (.block 0 (.loop (.ghost (.seq (.seq (.reg [m 11 5,m 12 0,o 13 (.len (.t 12)),o 14 (.bin .lss (.t 11) (.t
 13))]) (.cond (.t 14) (.skip) (.exit 0))) (.seq (.block 1 (.seq (.draw [m 17 0,m 18 5,o 19 (.iaddr 1 (.t 17) (.t 18)),l 20 19,m 21 1,m 22 5,o 23 (.iaddr 1 (.t 21) (.t 22)),l
 24 23] [o 25 (.bin .neq (.t 20) (.t 24))]) (.cond (.t 25) (.seq (.reg [o 4 (.mov F)]) (.ret)) (.skip)))) (.reg [m 15 5,o 16 (.bin .add (.t 15) (i 1)),m 5 16]))))))) (.seq (.reg
 [o 4 (.mov T)]) (.ret))))
theorem ok31:j9 Tryz.prog 31 ir31 2 [.t 4]=true:=by kernel_rfl
def ir136:PC:=.seq (.reg [o 2 (.box (.t 0)),o 3 (.box (.t 1)),o 4 (.mov F)]) (.seq (.seq (.reg [o 5 (.faddr 0 (.t 2)),l 6 5,o 7 (.faddr 0 (.t 3)),l 8 7,o 9 (.bin .neq (.t
 6) (.t 8))]) (.cond (.t 9) (.seq (.reg [o 4 (.mov F)]) (.ret)) (.skip))) (.seq (.seq (.reg [o 10 (.faddr 1 (.t 2)),l 11 10,o 12 (.faddr 1 (.t 3)),l 13 12,o 14 (.call 31 [.t 11,
 .t 13]),o 15 (.un .not (.t 14))]) (.cond (.t 15) (.seq (.reg [o 4 (.mov F)]) (.ret)) (.skip))) (.seq (.reg [o 4 (.mov T)]) (.ret))))
theorem ok136:j9 Tryz.prog 136 ir136 2 [.t 4]=true:=by kernel_rfl
def ir77:PC:=.seq (.reg [o 4 (.mov F)]) (.seq (.seq (.reg [m 6 0,o 7 (.len (.t 6)),m 8 1,o 9 (.len (.t 8)),o 10 (.bin .neq (.t 7) (.t 9))]) (.cond (.t 10) (.seq (.reg [o 4
 (.mov F)]) (.ret)) (.skip))) (.seq (.seq (.reg [o 5 (.mov (i 0))]) (.block 0 (.loop (.ghost (.seq (.seq (.reg [m 11 5,m 12 0,o 13 (.len (.t 12)),o 14 (.bin .lss (.t 11) (.t
 13))]) (.cond (.t 14) (.skip) (.exit 0))) (.seq (.block 1 (.seq (.draw [m 17 0,m 18 5,o 19 (.iaddr 2 (.t 17) (.t 18)),o 20 (.load true 2 (.t 19)),m 21 1,m 22 5,o 23 (.iaddr 2
 (.t 21) (.t 22)),o 24 (.load true 2 (.t 23))] [o 25 (.call 136 [.t 20,.t 24]),o 26 (.un .not (.t 25))]) (.cond (.t 26) (.seq (.reg [o 4 (.mov F)]) (.ret)) (.skip)))) (.reg [m 15
 5,o 16 (.bin .add (.t 15) (i 1)),m 5 16]))))))) (.seq (.reg [o 4 (.mov T)]) (.ret))))
theorem ok77:j9 Tryz.prog 77 ir77 2 [.t 4]=true:=by kernel_rfl
def ir25:PC:=.seq (.reg [o 2 (.box (.t 0)),o 3 (.box (.t 1)),o 4 (.mov F)]) (.seq (.seq (.reg [o 5 (.faddr 0 (.t 2)),l 6 5,o 7 (.faddr 0 (.t 3)),l 8 7,o 9 (.bin .neq (.t
 6) (.t 8))]) (.cond (.t 9) (.seq (.reg [o 4 (.mov F)]) (.ret)) (.skip))) (.seq (.seq (.reg [o 10 (.faddr 1 (.t 2)),l 11 10,o 12 (.faddr 1 (.t 3)),l 13 12,o 14 (.call 31 [.t 11,
 .t 13]),o 15 (.un .not (.t 14))]) (.cond (.t 15) (.seq (.reg [o 4 (.mov F)]) (.ret)) (.skip))) (.seq (.seq (.reg [o 16 (.faddr 2 (.t 2)),l 17 16,o 18 (.faddr 2 (.t 3)),l 19 18,
 o 20 (.call 77 [.t 17,.t 19]),o 21 (.un .not (.t 20))]) (.cond (.t 21) (.seq (.reg [o 4 (.mov F)]) (.ret)) (.skip))) (.seq (.reg [o 4 (.mov T)]) (.ret)))))
theorem ok25:j9 Tryz.prog 25 ir25 2 [.t 4]=true:=by kernel_rfl
end Go.Proofs
end
section
namespace Go.Proofs
open Go.PW Go.PW.I
def ir146:PC:=.seq (.reg [o 2 (.mov F)]) (.seq (.seq (.reg [m 4 0,o 5 (.lens (.t 4)),o 6 (.mn (.t 5) (i 25)),o 7 (.mov (i 0))]) (.block 0 (.loop (.ghost (.seq (.reg [o 8
 (.bin .lss (.t 7) (.t 6))]) (.seq (.cond (.t 8) (.skip) (.exit 0)) (.seq (.block 1 (.seq (.reg [m 9 7,m 3 9]) (.seq (.reg [m 10 0,m 11 3,o 12 (.idx (.t 10) (.t 11)),o 13 (.call
 203 [.t 12]),o 14 (.un .not (.t 13)),m 15 14,g 16 15 true (.mov (.t 0)),g 17 15 true (.mov (.t 3)),g 18 15 true (.idx (.t 16) (.t 17)),g 19 15 true (.bin .neq (.t 18) (.k
 (.val (.int .u8 45)))),g 20 15 true (.mov (.t 19)),g 21 20 false (.mov (.t 3)),g 22 20 false (.bin .eql (.t 21) (i 0)),g 23 15 true (.pick (.t 20) T (.t 22)),o 24 (.pick (.t
 15) (.t 23) F)]) (.cond (.t 24) (.seq (.reg [o 2 (.mov F)]) (.ret)) (.skip))))) (.reg [o 25 (.bin .add (.t 7) (i 1)),m 7 25])))))))) (.seq (.reg [m 26 0,o 27 (.lens (.t 26)),o
 28 (.call 114 [.t 27,.k (.val (.int .i64 1)),.k (.val (.int .i64 24))]),m 2 28]) (.ret)))
theorem ok146:j9 Tryz.prog 146 ir146 1 [.t 2]=true:=by kernel_rfl
def ir156:PC:=.seq (.reg [o 4 (.mov (i 0))]) (.seq (.seq (.reg [m 6 0,o 7 (.len (.t 6)),o 8 (.mov (i 0))]) (.block 0 (.loop (.ghost (.seq (.reg [o 9 (.bin .lss (.t 8) (.t
 7))]) (.seq (.cond (.t 9) (.skip) (.exit 0)) (.seq (.block 1 (.seq (.reg [m 10 8,m 5 10]) (.seq (.reg [m 11 1,m 12 0,m 13 5,o 14 (.iaddr 1 (.t 12) (.t 13)),l 15 14,o 16 (.bin
 .eql (.t 11) (.t 15))]) (.cond (.t 16) (.seq (.reg [m 17 5,m 4 17]) (.ret)) (.skip))))) (.reg [o 18 (.bin .add (.t 8) (i 1)),m 8 18])))))))) (.seq (.reg [o 4 (.mov (i (-1)))])
 (.ret)))
theorem ok156:j9 Tryz.prog 156 ir156 2 [.t 4]=true:=by kernel_rfl
def ir197:PC:=.seq (.reg [o 4 (.mov F)]) (.seq (.reg [m 5 0,m 6 1,o 7 (.call 156 [.t 5,.t 6]),o 8 (.bin .geq (.t 7) (i 0)),m 4 8]) (.ret))
theorem ok197:j9 Tryz.prog 197 ir197 2 [.t 4]=true:=by kernel_rfl
def ir134:PC:=.seq (.reg [o 4 (.mov F)]) (.seq (.seq (.reg [m 6 0,o 7 (.len (.t 6)),m 8 1,o 9 (.len (.t 8)),o 10 (.bin .neq (.t 7) (.t 9))]) (.cond (.t 10) (.seq (.reg [o 4
 (.mov F)]) (.ret)) (.skip))) (.seq (.seq (.reg [m 11 0,o 12 (.len (.t 11)),o 13 (.mov (i 0))]) (.block 0 (.loop (.ghost (.seq (.reg [o 14 (.bin .lss (.t 13) (.t 12))]) (.seq
 (.cond (.t 14) (.skip) (.exit 0)) (.seq (.block 1 (.seq (.reg [m 15 13,m 5 15]) (.seq (.draw [m 16 0,m 17 5,o 18 (.iaddr 1 (.t 16) (.t 17)),l 19 18,m 20 1,m 21 5,o 22
 (.iaddr 1 (.t 20) (.t 21)),l 23 22] [o 24 (.bin .neq (.t 19) (.t 23))]) (.cond (.t 24) (.seq (.reg [o 4 (.mov F)]) (.ret)) (.skip))))) (.reg [o 25 (.bin .add (.t 13) (i 1)),m 13
 25])))))))) (.seq (.reg [o 4 (.mov T)]) (.ret))))
theorem ok134:j9 Tryz.prog 134 ir134 2 [.t 4]=true:=by kernel_rfl
def ir258:PC:=.seq (.reg [o 4 (.mov (i 0))]) (.seq (.seq (.reg [m 6 0,o 7 (.len (.t 6)),o 8 (.mov (i 0))]) (.block 0 (.loop (.ghost (.seq (.reg [o 9 (.bin .lss (.t 8) (.t
 7))]) (.seq (.cond (.t 9) (.skip) (.exit 0)) (.seq (.block 1 (.seq (.reg [m 10 8,m 5 10]) (.seq (.reg [m 11 1,m 12 0,m 13 5,o 14 (.iaddr 1 (.t 12) (.t 13)),l 15 14,o 16
 (.callv (.t 11) [.t 15])]) (.cond (.t 16) (.seq (.reg [m 17 5,m 4 17]) (.ret)) (.skip))))) (.reg [o 18 (.bin .add (.t 8) (i 1)),m 8 18])))))))) (.seq (.reg [o 4 (.mov (i (-1)))])
 (.ret)))
theorem ok258:j9 Tryz.prog 258 ir258 2 [.t 4]=true:=by kernel_rfl
def ir191:PC:=.seq (.reg [o 4 (.mov F)]) (.seq (.reg [m 5 0,m 6 1,o 7 (.call 258 [.t 5,.t 6]),o 8 (.bin .geq (.t 7) (i 0)),m 4 8]) (.ret))
theorem ok191:j9 Tryz.prog 191 ir191 2 [.t 4]=true:=by kernel_rfl
def ir194:PC:=.seq (.reg [o 4 (.mov (i 0))]) (.seq (.seq (.reg [m 6 0,o 7 (.len (.t 6)),o 8 (.mov (i 0))]) (.block 0 (.loop (.ghost (.seq (.reg [o 9 (.bin .lss (.t 8) (.t
 7))]) (.seq (.cond (.t 9) (.skip) (.exit 0)) (.seq (.block 1 (.seq (.reg [m 10 8,m 5 10]) (.seq (.reg [m 11 1,m 12 0,m 13 5,o 14 (.iaddr 2 (.t 12) (.t 13)),o 15 (.load true 2
 (.t 14)),o 16 (.callv (.t 11) [.t 15])]) (.cond (.t 16) (.seq (.reg [m 17 5,m 4 17]) (.ret)) (.skip))))) (.reg [o 18 (.bin .add (.t 8) (i 1)),m 8 18])))))))) (.seq (.reg [o 4
 (.mov (i (-1)))]) (.ret)))
theorem ok194:j9 Tryz.prog 194 ir194 2 [.t 4]=true:=by kernel_rfl
def ir131:PC:=.seq (.reg [o 4 (.mov F)]) (.seq (.reg [m 5 0,m 6 1,o 7 (.call 194 [.t 5,.t 6]),o 8 (.bin .geq (.t 7) (i 0)),m 4 8]) (.ret))
theorem ok131:j9 Tryz.prog 131 ir131 2 [.t 4]=true:=by kernel_rfl
def ir192:PC:=.seq (.reg [o 2 (.mov F)]) (.seq (.reg [m 3 0,o 4 (.bin .eql (.t 3) (z #[])),m 5 4,g 6 5 false (.mov (.t 0)),g 7 5 false (.call 193 [.t 6,.k (.val (.str
 ⟨#[32,9,59]⟩))]),o 8 (.pick (.t 5) T (.t 7)),m 2 8]) (.ret))
theorem ok192:j9 Tryz.prog 192 ir192 1 [.t 2]=true:=by kernel_rfl
def ir130:PC:=.seq (.reg [o 1 (.box (.t 0)),o 2 (.mov F)]) (.seq (.reg [o 3 (.faddr 0 (.t 1)),l 4 3,o 5 (.call 146 [.t 4]),m 6 5,g 7 6 true (.faddr 1 (.t 1)),g 8 6 true
 (.load false 1 (.t 7)),g 9 6 true (.len (.t 8)),g 10 6 true (.bin .leq (.t 9) (i 8)),o 11 (.pick (.t 6) (.t 10) F),m 12 11,g 13 12 true (.faddr 1 (.t 1)),g 14 12 true (.load
 false 1 (.t 13)),g 15 12 true (.call 191 [.t 14,.k (.fn 192 [])]),g 16 12 true (.un .not (.t 15)),o 17 (.pick (.t 12) (.t 16) F),m 2 17]) (.ret))
theorem ok130:j9 Tryz.prog 130 ir130 1 [.t 2]=true:=by kernel_rfl
def ir260:PC:=.seq (.reg [o 2 (.box (.t 0)),o 3 (.mov F)]) (.seq (.reg [o 4 (.faddr 0 (.t 2)),l 5 4,l 6 1,o 7 (.bin .eql (.t 5) (.t 6)),m 3 7]) (.ret))
theorem ok260:j9 Tryz.prog 260 ir260 2 [.t 3]=true:=by kernel_rfl
def ir195:PC:=.seq (.reg [o 2 (.box (.t 0)),o 3 (.box (.t 1)),o 4 (.mov (.k (.emp 1)))]) (.seq (.reg [o 6 (.faddr 2 (.t 2)),l 7 6,o 8 (.mkfn 260 [.t 3]),o 9 (.call 194 [.t
 7,.t 8]),m 5 9]) (.seq (.seq (.reg [m 10 5,o 11 (.bin .lss (.t 10) (i 0))]) (.cond (.t 11) (.seq (.reg [o 4 (.mov (.k (.emp 1)))]) (.ret)) (.skip))) (.seq (.reg [o 12 (.faddr 2
 (.t 2)),l 13 12,m 14 5,o 15 (.iaddr 2 (.t 13) (.t 14)),o 16 (.faddr 1 (.t 15)),l 17 16,m 4 17]) (.ret))))
theorem ok195:j9 Tryz.prog 195 ir195 2 [.t 4]=true:=by kernel_rfl
def ir133_from4:PC:=.seq (.reg [o 58 (.load true 3 (.t 1)),n (.store 3 (.t 2) (.t 58))]) (.ret)
def ir133_from3:PC:=.seq (.seq (.reg [o 25 (.load true 3 (.t 1)),o 26 (.call 195 [.t 25,.k (.val (.str ⟨#[114,101,112,111,114,116,45,117,114,105]⟩))]),o 27 (.len (.t
 26)),o 28 (.mov (i 0))]) (.block 0 (.loop (.ghost (.seq (.reg [o 29 (.bin .lss (.t 28) (.t 27))]) (.seq (.cond (.t 29) (.skip) (.exit 0)) (.seq (.block 1 (.seq (.reg [o 30 (.iaddr
 1 (.t 26) (.t 28)),l 31 30,m 5 31]) (.seq (.reg [m 33 5,o 34 (.call 196 [.t 33]),m 32 34,o 35 (.ext 0 (.t 32)),o 36 (.ext 1 (.t 32)),m 6 35,m 7 36]) (.seq (.reg [m 37 7,m
 38 37,g 39 38 true (.faddr 1 (.t 1)),g 40 38 true (.load false 1 (.t 39)),g 41 38 true (.mov (.t 6)),g 42 38 true (.call 197 [.t 40,.t 41]),g 43 38 true (.un .not (.t 42)),o
 44 (.pick (.t 38) (.t 43) F),m 45 44,g 46 45 true (.faddr 1 (.t 1)),g 47 45 true (.load false 1 (.t 46)),g 48 45 true (.len (.t 47)),g 49 45 true (.bin .lss (.t 48) (i 4)),o
 50 (.pick (.t 45) (.t 49) F)]) (.cond (.t 50) (.reg [o 51 (.faddr 1 (.t 1)),l 52 51,m 53 6,o 54 (.lit 9 1 [.t 53]),o 55 (.app 9 1 16 (.t 52) (.t 54)),o 56 (.faddr 1 (.t 1)),n
 (.store 1 (.t 56) (.t 55))]) (.skip)))))) (.reg [o 57 (.bin .add (.t 28) (i 1)),m 28 57])))))))) (ir133_from4)
def ir133:PC:=.seq (.reg [o 1 (.box (.t 0)),o 2 (.alloc [.val (.str ⟨#[]⟩),.emp 1,.emp 2])]) (.seq (.reg [o 8 (.faddr 0 (.t 1)),n (.store 1 (.t 8) (z #[])),o 9 (.faddr 1
 (.t 1)),n (.store 1 (.t 9) (.k (.emp 1)))]) (.seq (.seq (.reg [o 10 (.load true 3 (.t 1)),o 11 (.call 195 [.t 10,.k (.val (.str ⟨#[114,101,112,111,114,116,45,116,
 111]⟩))]),m 3 11]) (.seq (.reg [m 12 3,o 13 (.len (.t 12)),o 14 (.bin .gtr (.t 13) (i 0)),m 15 14,g 16 15 true (.mov (.t 3)),g 17 15 true (.iaddr 1 (.t 16) (i 0)),g 18 15
 true (.load false 1 (.t 17)),g 19 15 true (.call 185 [.t 18]),o 20 (.pick (.t 15) (.t 19) F)]) (.cond (.t 20) (.reg [m 21 3,o 22 (.iaddr 1 (.t 21) (i 0)),l 23 22,o 24 (.faddr
 0 (.t 1)),n (.store 1 (.t 24) (.t 23))]) (.skip)))) (ir133_from3)))
theorem ok133:j9 Tryz.prog 133 ir133 1 [.c 2 true 3]=true:=by kernel_rfl
def ir132:PC:=.seq (.reg [o 2 (.box (.t 0)),o 3 (.mov F)]) (.seq (.reg [o 4 (.faddr 0 (.t 2)),l 5 4,o 6 (.faddr 0 (.t 1)),l 7 6,o 8 (.bin .eql (.t 5) (.t 7)),m 3 8])
 (.ret))
theorem ok132:j9 Tryz.prog 132 ir132 2 [.t 3]=true:=by kernel_rfl
def ir74_from3:PC:=.seq (.reg [o 30 (.load true 3 (.t 1)),o 31 (.call 133 [.t 30]),o 5 (.alloc [.val (.str ⟨#[]⟩),.emp 1,.emp 2]),n (.store 3 (.t 5) (.t 31))]) (.seq (.reg
 [o 32 (.faddr 0 (.t 5)),l 33 32,o 34 (.faddr 0 (.t 1)),l 35 34,o 36 (.bin .eql (.t 33) (.t 35)),m 37 36,g 38 37 true (.faddr 1 (.t 5)),g 39 37 true (.load false 1 (.t 38)),
 g 40 37 true (.faddr 1 (.t 1)),g 41 37 true (.load false 1 (.t 40)),g 42 37 true (.call 134 [.t 39,.t 41]),o 43 (.pick (.t 37) (.t 42) F),m 2 43]) (.ret))
def ir74:PC:=.seq (.reg [o 1 (.box (.t 0)),o 2 (.mov F)]) (.seq (.seq (.reg [o 6 (.faddr 2 (.t 1)),l 7 6,o 8 (.len (.t 7)),o 9 (.bin .gtr (.t 8) (i 8))]) (.cond (.t 9) (.seq
 (.reg [o 2 (.mov F)]) (.ret)) (.skip))) (.seq (.seq (.reg [o 10 (.faddr 2 (.t 1)),l 11 10,o 12 (.len (.t 11)),o 13 (.mov (i 0))]) (.block 0 (.loop (.ghost (.seq (.reg [o 14
 (.bin .lss (.t 13) (.t 12))]) (.seq (.cond (.t 14) (.skip) (.exit 0)) (.seq (.block 1 (.seq (.reg [m 15 13,o 16 (.iaddr 2 (.t 11) (.t 13)),o 17 (.load true 2 (.t 16)),o 4
 (.alloc [.val (.str ⟨#[]⟩),.emp 1]),m 3 15,n (.store 2 (.t 4) (.t 17))]) (.seq (.reg [o 18 (.load true 2 (.t 4)),o 19 (.call 130 [.t 18]),o 20 (.un .not (.t 19)),m 21 20,g
 22 21 false (.faddr 2 (.t 1)),g 23 21 false (.load false 1 (.t 22)),g 24 21 false (.mov (.t 3)),g 25 21 false (.slc 2 (.t 23) none (some (.t 24))),g 26 21 false (.mkfn 132 [.t
 4]),g 27 21 false (.call 131 [.t 25,.t 26]),o 28 (.pick (.t 21) T (.t 27))]) (.cond (.t 28) (.seq (.reg [o 2 (.mov F)]) (.ret)) (.skip))))) (.reg [o 29 (.bin .add (.t 13) (i
 1)),m 13 29])))))))) (ir74_from3)))
theorem ok74:j9 Tryz.prog 74 ir74 1 [.t 2]=true:=by kernel_rfl
end Go.Proofs
end
section
namespace Go.Proofs
open Go.PW Go.PW.I
def ir76:PC:=.seq (.reg [o 4 (.mov F)]) (.seq (.seq (.reg [m 6 0,o 7 (.len (.t 6)),m 8 1,o 9 (.len (.t 8)),o 10 (.bin .neq (.t 7) (.t 9))]) (.cond (.t 10) (.seq (.reg [o 4
 (.mov F)]) (.ret)) (.skip))) (.seq (.seq (.reg [o 5 (.mov (i 0))]) (.block 0 (.loop (.ghost (.seq (.seq (.reg [m 11 5,m 12 0,o 13 (.len (.t 12)),o 14 (.bin .lss (.t 11) (.t
 13))]) (.cond (.t 14) (.skip) (.exit 0))) (.seq (.block 1 (.seq (.draw [m 17 0,m 18 5,o 19 (.iaddr 3 (.t 17) (.t 18)),o 20 (.load true 3 (.t 19)),m 21 1,m 22 5,o 23 (.iaddr 3
 (.t 21) (.t 22)),o 24 (.load true 3 (.t 23))] [o 25 (.call 135 [.t 20,.t 24]),o 26 (.un .not (.t 25))]) (.cond (.t 26) (.seq (.reg [o 4 (.mov F)]) (.ret)) (.skip)))) (.reg [m 15
 5,o 16 (.bin .add (.t 15) (i 1)),m 5 16]))))))) (.seq (.reg [o 4 (.mov T)]) (.ret))))
theorem ok76:j9 Tryz.prog 76 ir76 2 [.t 4]=true:=by kernel_rfl
def ir24:PC:=.seq (.reg [o 2 (.box (.t 0)),o 3 (.box (.t 1)),o 4 (.mov F)]) (.seq (.seq (.reg [o 5 (.faddr 0 (.t 2)),l 6 5,o 7 (.faddr 0 (.t 3)),l 8 7,o 9 (.bin .neq (.t
 6) (.t 8))]) (.cond (.t 9) (.seq (.reg [o 4 (.mov F)]) (.ret)) (.skip))) (.seq (.seq (.reg [o 10 (.faddr 1 (.t 2)),l 11 10,o 12 (.faddr 1 (.t 3)),l 13 12,o 14 (.bin .neq (.t
 11) (.t 13))]) (.cond (.t 14) (.seq (.reg [o 4 (.mov F)]) (.ret)) (.skip))) (.seq (.seq (.reg [o 15 (.faddr 2 (.t 2)),l 16 15,o 17 (.faddr 2 (.t 3)),l 18 17,o 19 (.call 76 [.t
 16,.t 18]),o 20 (.un .not (.t 19))]) (.cond (.t 20) (.seq (.reg [o 4 (.mov F)]) (.ret)) (.skip))) (.seq (.reg [o 4 (.mov T)]) (.ret)))))
theorem ok24:j9 Tryz.prog 24 ir24 2 [.t 4]=true:=by kernel_rfl
end Go.Proofs
end
section
namespace Go.Proofs
open Go.PW Go.PW.I
end Go.Proofs
end
section
namespace Go.Proofs
open Go.PW Go.PW.I
def ir83:PC:=.seq (.reg [o 2 (.mov (z #[]))]) (.seq (.seq (.reg [m 4 0,o 5 (.bin .leq (.t 4) (i 0))]) (.cond (.t 5) (.seq (.reg [o 2 (.mov (z #[109,48]))]) (.ret)) (.skip)))
 (.seq (.reg [o 3 (.mov (z #[]))]) (.seq (.block 0 (.loop (.ghost (.seq (.seq (.reg [m 6 0,o 7 (.bin .gtr (.t 6) (i 0))]) (.cond (.t 7) (.skip) (.exit 0))) (.block 1 (.seq (.reg [m
 8 0,o 9 (.bin .rem (.t 8) (i 10)),o 10 (.bin .add (i 48) (.t 9)),o 11 (.conv .u8 (.t 10)),o 12 (.lit 5 1 [.t 11]),o 13 (.tostr (.t 12)),m 14 3,o 15 (.bin .add (.t 13) (.t
 14)),m 3 15]) (.reg [m 16 0,o 17 (.bin .quo (.t 16) (i 10)),m 0 17]))))))) (.seq (.reg [m 18 3,o 19 (.bin .add (z #[109]) (.t 18)),m 2 19]) (.ret)))))
theorem ok83:j9 Tryz.prog 83 ir83 1 [.t 2]=true:=by kernel_rfl
def ir26:PC:=.seq (.reg [o 2 (.box (.t 0)),o 4 (.mov (i 0))]) (.seq (.reg [o 5 (.faddr 1 (.t 2)),l 6 5,m 7 1,o 8 (.callr 32 (.t 6) [.t 7]),m 1 8]) (.seq (.reg [o 9 (.faddr
 2 (.t 2)),l 10 9,m 11 1,o 12 (.call 78 [.t 10,.t 11]),m 1 12]) (.seq (.reg [m 13 1,m 4 13]) (.ret))))
theorem ok26:j9 Tryz.prog 26 ir26 2 [.t 4]=true:=by kernel_rfl
def irp78_l6:PC:=.seq (.seq (.reg [m 6 5,m 7 0,o 8 (.xop (.plen (.t 7))),o 9 (.bin .lss (.t 6) (.t 8))]) (.cond (.t 9) (.skip) (.exit 0))) (.seq (.block 1 (.seq (.reg [m 12
 0,m 13 5,m 14 1,o 15 (.call 83 [.t 14]),o 16 (.xop (.piaddr 2 (.t 12) (.t 13))),o 17 (.faddr 0 (.t 16)),n (.xop (.pstore 1 (.t 17) (.t 15)))]) (.seq (.reg [m 18 1,o 19 (.bin
 .add (.t 18) (i 1)),m 1 19]) (.reg [m 20 0,m 21 5,o 22 (.xop (.piaddr 2 (.t 20) (.t 21))),o 23 (.faddr 1 (.t 22)),o 24 (.xop (.pload false 1 (.t 23))),m 25 1,o 26 (.callr 32
 (.t 24) [.t 25]),m 1 26])))) (.reg [m 10 5,o 11 (.bin .add (.t 10) (i 1)),m 5 11]))
def irp78:PC:=.seq (.reg [o 4 (.mov (i 0))]) (.seq (.seq (.reg [o 5 (.mov (i 0))]) (.block 0 (.loop (.ghost irp78_l6)))) (.seq (.reg [m 27 1,m 4 27]) (.ret)))
theorem okp78:j9 Tryz.prog 78 irp78 2 [.t 4]=true:=by kernel_rfl
def ir32_l6:PC:=.seq (.seq (.reg [m 6 5,m 7 0,o 8 (.len (.t 7)),o 9 (.bin .lss (.t 6) (.t 8))]) (.cond (.t 9) (.skip) (.exit 0))) (.seq (.block 1 (.seq (.reg [m 12 0,m 13 5,
 m 14 1,o 15 (.call 83 [.t 14]),o 16 (.iaddr 1 (.t 12) (.t 13)),n (.store 1 (.t 16) (.t 15))]) (.reg [m 17 1,o 18 (.bin .add (.t 17) (i 1)),m 1 18]))) (.reg [m 10 5,o 11 (.bin
 .add (.t 10) (i 1)),m 5 11]))
def ir32:PC:=.seq (.reg [o 4 (.mov (i 0))]) (.seq (.seq (.reg [o 5 (.mov (i 0))]) (.block 0 (.loop (.ghost ir32_l6)))) (.seq (.reg [m 19 1,m 4 19]) (.ret)))
theorem ok32:j9 Tryz.prog 32 ir32 2 [.t 4]=true:=by kernel_rfl
def ir79_l6:PC:=.seq (.seq (.reg [m 6 5,m 7 0,o 8 (.len (.t 7)),o 9 (.bin .lss (.t 6) (.t 8))]) (.cond (.t 9) (.skip) (.exit 0))) (.seq (.block 1 (.seq (.reg [m 12 0,m 13 5,
 m 14 1,o 15 (.call 83 [.t 14]),o 16 (.iaddr 3 (.t 12) (.t 13)),o 17 (.faddr 0 (.t 16)),n (.store 1 (.t 17) (.t 15))]) (.seq (.reg [m 18 1,o 19 (.bin .add (.t 18) (i 1)),m 1
 19]) (.seq (.reg [m 20 0,m 21 5,m 22 1,o 23 (.iaddr 3 (.t 20) (.t 21)),o 24 (.faddr 1 (.t 23)),n (.store 1 (.t 24) (.t 22))]) (.seq (.reg [m 25 1,o 26 (.bin .add (.t 25) (i
 1)),m 1 26]) (.seq (.reg [m 27 0,m 28 5,m 29 1,o 30 (.iaddr 3 (.t 27) (.t 28)),o 31 (.faddr 2 (.t 30)),n (.store 1 (.t 31) (.t 29))]) (.reg [m 32 1,o 33 (.bin .add (.t 32)
 (i 1)),m 1 33]))))))) (.reg [m 10 5,o 11 (.bin .add (.t 10) (i 1)),m 5 11]))
def ir79:PC:=.seq (.reg [o 4 (.mov (i 0))]) (.seq (.seq (.reg [o 5 (.mov (i 0))]) (.block 0 (.loop (.ghost ir79_l6)))) (.seq (.reg [m 34 1,m 4 34]) (.ret)))
theorem ok79:j9 Tryz.prog 79 ir79 2 [.t 4]=true:=by kernel_rfl
def irp71:PC:=.seq (.reg [o 2 (.mov (.k (.emp 2)))]) (.seq (.reg [m 5 0,o 6 (.len (.t 5)),o 7 (.mks 181 2 40 true [.val (.str ⟨#[]⟩),.emp 1] (.t 6)),m 3 7]) (.seq (.seq
 (.reg [o 4 (.mov (i 0))]) (.block 0 (.loop (.ghost (.seq (.seq (.reg [m 8 4,m 9 0,o 10 (.len (.t 9)),o 11 (.bin .lss (.t 8) (.t 10))]) (.cond (.t 11) (.skip) (.exit 0))) (.seq
 (.block 1 (.reg [m 14 3,m 15 4,m 16 0,m 17 4,o 18 (.iaddr 2 (.t 16) (.t 17)),o 19 (.load true 2 (.t 18)),o 20 (.call 129 [.t 19]),o 21 (.xop (.piaddr 2 (.t 14) (.t 15))),n
 (.xop (.pstore 2 (.t 21) (.t 20)))])) (.reg [m 12 4,o 13 (.bin .add (.t 12) (i 1)),m 4 13]))))))) (.seq (.reg [m 22 3,m 2 22]) (.ret))))
theorem okp71:j9 Tryz.prog 71 irp71 1 [.t 2]=true:=by kernel_rfl
end Go.Proofs
end
section
namespace Go.Proofs
open Go.PW Go.PW.I
def ir27:PC:=.seq (.reg [o 2 (.box (.t 0)),o 4 (.mov (i 0))]) (.seq (.reg [o 5 (.faddr 2 (.t 2)),l 6 5,m 7 1,o 8 (.callr 79 (.t 6) [.t 7]),m 1 8]) (.seq (.reg [m 9 1,m 4
 9]) (.ret)))
theorem ok27:j9 Tryz.prog 27 ir27 2 [.t 4]=true:=by kernel_rfl
def ir69:PC:=.seq (.reg [o 1 (.box (.t 0)),o 2 (.alloc [.val (.str ⟨#[]⟩),.val (.int .i64 0),.emp 3])]) (.seq (.reg [o 5 (.lit 185 3 []),o 6 (.build [.val (.str ⟨#[]⟩),.val
 (.int .i64 0),.emp 3] [(0,1,.k (.val (.str ⟨#[117,114,105]⟩))),(1,1,.k (.val (.int .i64 100))),(2,1,.t 5)]),o 3 (.alloc [.val (.str ⟨#[]⟩),.val (.int .i64 0),.emp
 3]),n (.store 3 (.t 3) (.t 6))]) (.seq (.seq (.reg [o 4 (.mov (i 0))]) (.block 0 (.loop (.ghost (.seq (.seq (.reg [m 7 4,o 8 (.faddr 1 (.t 1)),l 9 8,o 10 (.len (.t 9)),o 11
 (.bin .lss (.t 7) (.t 10))]) (.cond (.t 11) (.skip) (.exit 0))) (.seq (.block 1 (.draw [o 14 (.faddr 2 (.t 3)),l 15 14,o 16 (.faddr 1 (.t 1)),l 17 16,m 18 4,o 19 (.iaddr 1 (.t
 17) (.t 18)),l 20 19,m 21 4,o 22 (.bin .add (i 1) (.t 21)),o 23 (.build [.val (.str ⟨#[]⟩),.val (.int .i64 0),.val (.int .i64 0)] [(0,1,.t 20),(1,1,.t 22),(2,1,.k
 (.val (.int .i64 1)))]),o 24 (.lit 185 3 [.t 23])] [o 25 (.app 185 3 32 (.t 15) (.t 24)),o 26 (.faddr 2 (.t 3)),n (.store 1 (.t 26) (.t 25))])) (.reg [m 12 4,o 13 (.bin .add
 (.t 12) (i 1)),m 4 13]))))))) (.seq (.reg [o 27 (.load true 3 (.t 3)),n (.store 3 (.t 2) (.t 27))]) (.ret))))
theorem ok69:j9 Tryz.prog 69 ir69 1 [.c 2 true 3]=true:=by kernel_rfl
def ir21:PC:=.seq (.reg [o 1 (.box (.t 0)),o 2 (.alloc [.val (.str ⟨#[]⟩),.val (.int .i64 0),.emp 3]),o 3 (.mov (i 0))]) (.seq (.seq (.reg [o 4 (.load true 3 (.t 1)),o 5
 (.call 68 [.t 4]),o 6 (.un .not (.t 5))]) (.cond (.t 6) (.seq (.reg [o 7 (.build [.val (.str ⟨#[]⟩),.val (.int .i64 0),.emp 3] []),n (.store 3 (.t 2) (.t 7)),o 3 (.mov (i
 1))]) (.ret)) (.skip))) (.seq (.seq (.reg [o 8 (.faddr 1 (.t 1)),l 9 8,o 10 (.len (.t 9)),o 11 (.bin .eql (.t 10) (i 0))]) (.cond (.t 11) (.seq (.reg [o 12 (.build [.val (.str
 ⟨#[]⟩),.val (.int .i64 0),.emp 3] []),n (.store 3 (.t 2) (.t 12)),o 3 (.mov (i 5))]) (.ret)) (.skip))) (.seq (.reg [o 13 (.load true 3 (.t 1)),o 14 (.call 69 [.t 13]),n
 (.store 3 (.t 2) (.t 14)),o 3 (.mov (i 0))]) (.ret))))
theorem ok21:j9 Tryz.prog 21 ir21 1 [.c 2 true 3,.t 3]=true:=by kernel_rfl
def ir75:PC:=.seq (.reg [o 1 (.box (.t 0)),o 2 (.alloc [.val (.str ⟨#[]⟩),.val (.int .i64 0),.emp 3])]) (.seq (.reg [o 6 (.build [.val (.str ⟨#[]⟩),.val (.int .i64 0),.emp
 3] [(0,1,.k (.val (.str ⟨#[117,114,105]⟩))),(1,1,.k (.val (.int .i64 100)))]),o 3 (.alloc [.val (.str ⟨#[]⟩),.val (.int .i64 0),.emp 3]),n (.store 3 (.t 3) (.t 6))])
 (.seq (.seq (.reg [o 7 (.faddr 1 (.t 1)),l 8 7,o 9 (.len (.t 8)),o 10 (.mov (i 0))]) (.block 0 (.loop (.ghost (.seq (.reg [o 11 (.bin .lss (.t 10) (.t 9))]) (.seq (.cond (.t 11)
 (.skip) (.exit 0)) (.seq (.block 1 (.seq (.reg [m 12 10,o 13 (.iaddr 1 (.t 8) (.t 10)),l 14 13,m 4 12,m 5 14]) (.reg [o 15 (.faddr 2 (.t 3)),l 16 15,m 17 5,m 18 4,o 19
 (.bin .add (.t 18) (i 1)),o 20 (.build [.val (.str ⟨#[]⟩),.val (.int .i64 0),.val (.int .i64 0)] [(0,1,.t 17),(1,1,.t 19),(2,1,.k (.val (.int .i64 1)))]),o 21 (.lit 185
 3 [.t 20]),o 22 (.app 185 3 32 (.t 16) (.t 21)),o 23 (.faddr 2 (.t 3)),n (.store 1 (.t 23) (.t 22))]))) (.reg [o 24 (.bin .add (.t 10) (i 1)),m 10 24])))))))) (.seq (.reg [o 25
 (.load true 3 (.t 3)),n (.store 3 (.t 2) (.t 25))]) (.ret))))
theorem ok75:j9 Tryz.prog 75 ir75 1 [.c 2 true 3]=true:=by kernel_rfl
def ir23:PC:=.seq (.reg [o 1 (.box (.t 0)),o 2 (.alloc [.val (.str ⟨#[]⟩),.val (.int .i64 0),.emp 3]),o 3 (.mov (i 0))]) (.seq (.seq (.draw [o 5 (.load true 3 (.t 1)),o 6
 (.call 74 [.t 5]),o 7 (.call 73 [.t 6,.k (.val (.int .i64 1))]),o 8 (.faddr 1 (.t 1)),l 9 8,o 10 (.len (.t 9)),o 11 (.bin .gtr (.t 10) (i 0)),o 12 (.call 73 [.t 11,.k (.val
 (.int .i64 5))]),o 13 (.lit 3 1 [.t 7,.t 12]),o 14 (.call 72 [.t 13])] [m 4 14]) (.seq (.reg [m 15 4,o 16 (.bin .neq (.t 15) (i 0))]) (.cond (.t 16) (.seq (.reg [o 17 (.build
 [.val (.str ⟨#[]⟩),.val (.int .i64 0),.emp 3] []),m 18 4,n (.store 3 (.t 2) (.t 17)),m 3 18]) (.ret)) (.skip)))) (.seq (.reg [o 19 (.load true 3 (.t 1)),o 20 (.call 75 [.t
 19]),n (.store 3 (.t 2) (.t 20)),o 3 (.mov (i 0))]) (.ret)))
theorem ok23:j9 Tryz.prog 23 ir23 1 [.c 2 true 3,.t 3]=true:=by kernel_rfl
def ir5:PC:=.seq (.reg [o 1 (.box (.t 0)),o 2 (.mov F)]) (.seq (.reg [o 3 (.mov (i 1048576))]) (.seq (.reg [o 14 (.load true 3 (.t 1)),m 15 3,o 16 (.call 20 [.t 14,.t 15]),
 m 3 16]) (.seq (.seq (.reg [m 17 3,o 18 (.bin .lss (.t 17) (i 0))]) (.cond (.t 18) (.seq (.reg [o 2 (.mov T)]) (.ret)) (.skip))) (.seq (.reg [o 20 (.load true 3 (.t 1)),o 21
 (.call 22 [.t 20]),o 22 (.call 21 [.t 21]),m 19 22,o 23 (.ext 0 (.t 19)),o 24 (.ext 1 (.t 19)),o 4 (.alloc [.val (.str ⟨#[]⟩),.val (.int .i64 0),.emp 3]),n (.store 3 (.t 4)
 (.t 23)),m 5 24]) (.seq (.reg [o 25 (.load true 3 (.t 1)),o 26 (.call 22 [.t 25]),o 6 (.alloc [.val (.str ⟨#[]⟩),.emp 1,.emp 2]),n (.store 3 (.t 6) (.t 26))]) (.seq (.reg [o
 28 (.load true 3 (.t 6)),o 29 (.call 23 [.t 28]),m 27 29,o 30 (.ext 0 (.t 27)),o 31 (.ext 1 (.t 27)),o 7 (.alloc [.val (.str ⟨#[]⟩),.val (.int .i64 0),.emp 3]),n (.store 3
 (.t 7) (.t 30)),m 8 31]) (.seq (.seq (.reg [o 32 (.load true 3 (.t 7)),o 33 (.load true 3 (.t 4)),o 34 (.call 24 [.t 32,.t 33]),o 35 (.un .not (.t 34)),m 36 35,g 37 36 false
 (.mov (.t 8)),g 38 36 false (.mov (.t 5)),g 39 36 false (.bin .neq (.t 37) (.t 38)),o 40 (.pick (.t 36) T (.t 39))]) (.cond (.t 40) (.seq (.reg [o 2 (.mov F)]) (.ret)) (.skip)))
 (.seq (.seq (.draw [o 41 (.load true 3 (.t 6)),o 42 (.load true 3 (.t 1)),o 43 (.call 22 [.t 42])] [o 44 (.call 25 [.t 41,.t 43]),o 45 (.un .not (.t 44))]) (.cond (.t 45) (.seq
 (.reg [o 2 (.mov F)]) (.ret)) (.skip))) (.seq (.reg [o 9 (.mov (i 1))]) (.seq (.reg [o 46 (.load true 3 (.t 6)),m 47 9,o 48 (.call 26 [.t 46,.t 47]),m 9 48]) (.seq (.seq (.reg
 [m 49 9,o 50 (.bin .lss (.t 49) (i 0)),m 51 50,g 52 51 false (.load true 3 (.t 7)),g 53 51 false (.load true 3 (.t 4)),g 54 51 false (.call 24 [.t 52,.t 53]),g 55 51 false
 (.un .not (.t 54)),o 56 (.pick (.t 51) T (.t 55)),m 57 56,g 58 57 false (.mov (.t 8)),g 59 57 false (.mov (.t 5)),g 60 57 false (.bin .neq (.t 58) (.t 59)),o 61 (.pick (.t
 57) T (.t 60))]) (.cond (.t 61) (.seq (.reg [o 2 (.mov F)]) (.ret)) (.skip))) (.seq (.reg [o 10 (.mov (i 1))]) (.seq (.reg [o 62 (.load true 3 (.t 7)),m 63 10,o 64 (.callr 27 (.t
 62) [.t 63]),m 10 64]) (.seq (.reg [o 11 (.mov (i 1))]) (.seq (.reg [o 65 (.load true 3 (.t 7)),m 66 11,o 67 (.call 28 [.t 65,.t 66]),m 11 67]) (.seq (.seq (.reg [m 68 11,o
 69 (.bin .lss (.t 68) (i 0))]) (.cond (.t 69) (.seq (.reg [o 2 (.mov F)]) (.ret)) (.skip))) (.seq (.seq (.reg [m 70 11,m 71 10,o 72 (.bin .neq (.t 70) (.t 71))]) (.cond (.t 72)
 (.seq (.reg [o 2 (.mov F)]) (.ret)) (.skip))) (.seq (.reg [o 74 (.load true 3 (.t 1)),o 75 (.call 22 [.t 74]),o 76 (.call 23 [.t 75]),m 73 76,o 77 (.ext 0 (.t 73)),o 78 (.ext
 1 (.t 73)),o 12 (.alloc [.val (.str ⟨#[]⟩),.val (.int .i64 0),.emp 3]),n (.store 3 (.t 12) (.t 77)),m 13 78]) (.seq (.seq (.reg [o 79 (.load true 3 (.t 12)),o 80 (.load true
 3 (.t 4)),o 81 (.call 24 [.t 79,.t 80]),o 82 (.un .not (.t 81)),m 83 82,g 84 83 false (.mov (.t 13)),g 85 83 false (.mov (.t 5)),g 86 83 false (.bin .neq (.t 84) (.t 85)),o
 87 (.pick (.t 83) T (.t 86))]) (.cond (.t 87) (.seq (.reg [o 2 (.mov F)]) (.ret)) (.skip))) (.seq (.reg [o 11 (.mov (i 1))]) (.seq (.reg [o 88 (.load true 3 (.t 7)),m 89 11,o 90
 (.call 28 [.t 88,.t 89]),m 11 90]) (.seq (.seq (.reg [m 91 11,o 92 (.bin .lss (.t 91) (i 0))]) (.cond (.t 92) (.seq (.reg [o 2 (.mov F)]) (.ret)) (.skip))) (.seq (.seq (.reg [m
 93 11,m 94 10,o 95 (.bin .neq (.t 93) (.t 94))]) (.cond (.t 95) (.seq (.reg [o 2 (.mov F)]) (.ret)) (.skip))) (.seq (.reg [o 2 (.mov T)]) (.ret)))))))))))))))))))))))))
theorem ok5:j9 Tryz.prog 5 ir5 1 [.t 2]=true:=by kernel_rfl
def ir80_l6:PC:=.seq (.seq (.reg [m 6 5,m 7 0,o 8 (.len (.t 7)),o 9 (.bin .lss (.t 6) (.t 8))]) (.cond (.t 9) (.skip) (.exit 0))) (.seq (.block 1 (.seq (.seq (.draw [m 12 0,
 m 13 5,o 14 (.iaddr 3 (.t 12) (.t 13)),o 15 (.faddr 0 (.t 14)),l 16 15,m 17 1,o 18 (.call 83 [.t 17])] [o 19 (.bin .neq (.t 16) (.t 18))]) (.cond (.t 19) (.seq (.reg [o 4
 (.mov (i (-1)))]) (.ret)) (.skip))) (.seq (.reg [m 20 1,o 21 (.bin .add (.t 20) (i 1)),m 1 21]) (.seq (.seq (.reg [m 22 0,m 23 5,o 24 (.iaddr 3 (.t 22) (.t 23)),o 25 (.faddr 1
 (.t 24)),l 26 25,m 27 1,o 28 (.bin .neq (.t 26) (.t 27))]) (.cond (.t 28) (.seq (.reg [o 4 (.mov (i (-1)))]) (.ret)) (.skip))) (.seq (.reg [m 29 1,o 30 (.bin .add (.t 29) (i
 1)),m 1 30]) (.seq (.seq (.reg [m 31 0,m 32 5,o 33 (.iaddr 3 (.t 31) (.t 32)),o 34 (.faddr 2 (.t 33)),l 35 34,m 36 1,o 37 (.bin .neq (.t 35) (.t 36))]) (.cond (.t 37) (.seq
 (.reg [o 4 (.mov (i (-1)))]) (.ret)) (.skip))) (.reg [m 38 1,o 39 (.bin .add (.t 38) (i 1)),m 1 39]))))))) (.reg [m 10 5,o 11 (.bin .add (.t 10) (i 1)),m 5 11]))
def ir80:PC:=.seq (.reg [o 4 (.mov (i 0))]) (.seq (.seq (.reg [o 5 (.mov (i 0))]) (.block 0 (.loop (.ghost ir80_l6)))) (.seq (.reg [m 40 1,m 4 40]) (.ret)))
theorem ok80:j9 Tryz.prog 80 ir80 2 [.t 4]=true:=by kernel_rfl
def ir28:PC:=.seq (.reg [o 2 (.box (.t 0)),o 4 (.mov (i 0))]) (.seq (.reg [o 5 (.faddr 2 (.t 2)),l 6 5,m 7 1,o 8 (.call 80 [.t 6,.t 7]),m 1 8]) (.seq (.seq (.reg [m 9 1,o
 10 (.bin .lss (.t 9) (i 0))]) (.cond (.t 10) (.seq (.reg [o 4 (.mov (i (-1)))]) (.ret)) (.skip))) (.seq (.reg [m 11 1,m 4 11]) (.ret))))
theorem ok28:j9 Tryz.prog 28 ir28 2 [.t 4]=true:=by kernel_rfl
end Go.Proofs
end
