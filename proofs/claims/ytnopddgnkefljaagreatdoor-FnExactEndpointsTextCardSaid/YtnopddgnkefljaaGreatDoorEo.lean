/- Eo: merged out of IRnn, KSz, KJt. -/
import Derived.Test.YtnopddgnkefljaaGreatDoorPWv
import Derived.Test.YtnopddgnkefljaaGreatDoorChecked
import Derived.KernelRfl
import Derived.Test.YtnopddgnkefljaaGreatDoorCc
import Derived.Test.YtnopddgnkefljaaGreatDoorCa
import Derived.Test.YtnopddgnkefljaaGreatDoorAc
import Derived.Test.YtnopddgnkefljaaGreatDoorEj
import Derived.Test.YtnopddgnkefljaaGreatDoorCb
import Derived.Test.YtnopddgnkefljaaGreatDoorEe

/- Functions of the seat as data. MADE BY PROGRAM (print_ir.py). -/
section
set_option maxRecDepth 100000
namespace Go.Proofs
open Go.PW Go.PW.I

/-- spec.l03Plain -/
def ir41 : PC := .seq (.reg [o 1 (.box (.t 0)), o 2 (.mov F)]) (.seq (.draw [o 3 (.load true 3 (.t 1)), o 4 (.call 55 [.t 3]), m 5 4, g 6 5 true (.faddr 2 (.t 1)), g 7 5 true (.load
 false 1 (.t 6)), g 8 5 true (.len (.t 7)), g 9 5 true (.bin .eql (.t 8) (i 1)), o 10 (.pick (.t 5) (.t 9) F), m 11 10, g 12 11 true (.faddr 2 (.t 1)), g 13 11 true (.load false 1
 (.t 12)), g 14 11 true (.iaddr 3 (.t 13) (i 0)), g 15 11 true (.faddr 1 (.t 14)), g 16 11 true (.load false 1 (.t 15)), g 17 11 true (.bin .eql (.t 16) (i 1)), o 18 (.pick (.t 11)
 (.t 17) F), m 19 18, g 20 19 true (.faddr 2 (.t 1)), g 21 19 true (.load false 1 (.t 20)), g 22 19 true (.iaddr 3 (.t 21) (i 0)), g 23 19 true (.faddr 2 (.t 22)), g 24 19 true
 (.load false 1 (.t 23)), g 25 19 true (.bin .eql (.t 24) (i 1)), o 26 (.pick (.t 19) (.t 25) F), m 27 26, g 28 27 true (.faddr 1 (.t 1)), g 29 27 true (.load false 1 (.t 28)), g 30
 27 true (.bin .eql (.t 29) (i 100)), o 31 (.pick (.t 27) (.t 30) F), m 32 31, g 33 32 true (.faddr 2 (.t 1)), g 34 32 true (.load false 1 (.t 33)), g 35 32 true (.iaddr 3 (.t 34)
 (i 0)), g 36 32 true (.faddr 0 (.t 35)), g 37 32 true (.load false 1 (.t 36)), g 38 32 true (.call 86 [.t 37, .k (.val (.int .u8 34))]), g 39 32 true (.faddr 2 (.t 1)), g 40 32
 true (.load false 1 (.t 39)), g 41 32 true (.iaddr 3 (.t 40) (i 0)), g 42 32 true (.faddr 0 (.t 41)), g 43 32 true (.load false 1 (.t 42)), g 44 32 true (.lens (.t 43)), g 45 32
 true (.bin .eql (.t 38) (.t 44)), o 46 (.pick (.t 32) (.t 45) F), m 47 46, g 48 47 true (.faddr 2 (.t 1)), g 49 47 true (.load false 1 (.t 48)), g 50 47 true (.iaddr 3 (.t 49) (i
 0)), g 51 47 true (.faddr 0 (.t 50)), g 52 47 true (.load false 1 (.t 51)), g 53 47 true (.call 86 [.t 52, .k (.val (.int .u8 92))]), g 54 47 true (.faddr 2 (.t 1)), g 55 47 true
 (.load false 1 (.t 54)), g 56 47 true (.iaddr 3 (.t 55) (i 0)), g 57 47 true (.faddr 0 (.t 56)), g 58 47 true (.load false 1 (.t 57)), g 59 47 true (.lens (.t 58)), g 60 47 true
 (.bin .eql (.t 53) (.t 59)), o 61 (.pick (.t 47) (.t 60) F), m 62 61, g 63 62 true (.faddr 2 (.t 1)), g 64 62 true (.load false 1 (.t 63)), g 65 62 true (.iaddr 3 (.t 64) (i 0)), g
 66 62 true (.faddr 0 (.t 65)), g 67 62 true (.load false 1 (.t 66)), g 68 62 true (.call 86 [.t 67, .k (.val (.int .u8 44))]), g 69 62 true (.faddr 2 (.t 1)), g 70 62 true (.load
 false 1 (.t 69)), g 71 62 true (.iaddr 3 (.t 70) (i 0)), g 72 62 true (.faddr 0 (.t 71)), g 73 62 true (.load false 1 (.t 72)), g 74 62 true (.lens (.t 73)), g 75 62 true (.bin
 .eql (.t 68) (.t 74)), o 76 (.pick (.t 62) (.t 75) F)] [m 2 76]) (.ret))
theorem ok41 : chkFn Tryz.prog 41 ir41 1 [.t 2] = true := by kernel_rfl
/-- spec.EndpointsText -/
def ir14 : PC := .seq (.reg [o 2 (.mov (z #[])), o 3 (.mov (i 0))]) (.seq (.seq (.reg [m 6 0, o 7 (.len (.t 6)), o 8 (.bin .gtr (.t 7) (i 4096))]) (.cond (.t 8) (.seq (.reg [o 2
 (.mov (z #[])), o 3 (.mov (i 2))]) (.ret)) (.skip))) (.seq (.seq (.reg [m 9 0, o 10 (.len (.t 9)), o 11 (.bin .gtr (.t 10) (i 4))]) (.cond (.t 11) (.seq (.reg [o 2 (.mov (z #[])),
 o 3 (.mov (i 6))]) (.ret)) (.skip))) (.seq (.reg [o 4 (.mov (z #[]))]) (.seq (.seq (.reg [o 5 (.mov (i 0))]) (.block 0 (.loop (.ghost (.seq (.seq (.reg [m 12 5, m 13 0, o 14 (.len
 (.t 13)), o 15 (.bin .lss (.t 12) (.t 14))]) (.cond (.t 15) (.skip) (.exit 0))) (.seq (.block 1 (.seq (.seq (.reg [m 18 0, m 19 5, o 20 (.iaddr 3 (.t 18) (.t 19)), o 21 (.load true
 3 (.t 20)), o 22 (.call 41 [.t 21]), o 23 (.un .not (.t 22))]) (.cond (.t 23) (.seq (.reg [o 2 (.mov (z #[])), o 3 (.mov (i 1))]) (.ret)) (.skip))) (.seq (.seq (.reg [m 24 5, o 25
 (.bin .gtr (.t 24) (i 0))]) (.cond (.t 25) (.reg [m 26 4, o 27 (.bin .add (.t 26) (z #[44, 32])), m 4 27]) (.skip))) (.draw [m 28 4, m 29 0, m 30 5, o 31 (.iaddr 3 (.t 29) (.t
 30)), o 32 (.faddr 0 (.t 31)), l 33 32, o 34 (.bin .add (.t 33) (z #[61, 34])), m 35 0, m 36 5, o 37 (.iaddr 3 (.t 35) (.t 36)), o 38 (.faddr 2 (.t 37)), l 39 38, o 40 (.iaddr 3
 (.t 39) (i 0)), o 41 (.faddr 0 (.t 40)), l 42 41, o 43 (.bin .add (.t 34) (.t 42)), o 44 (.bin .add (.t 43) (z #[34])), o 45 (.bin .add (.t 28) (.t 44))] [m 4 45])))) (.reg [m 16
 5, o 17 (.bin .add (.t 16) (i 1)), m 5 17]))))))) (.seq (.reg [m 46 4, m 2 46, o 3 (.mov (i 0))]) (.ret))))))
theorem ok14 : chkFn Tryz.prog 14 ir14 1 [.t 2, .t 3] = true := by kernel_rfl
def ir16_from4 : PC := .seq (.seq (.reg [m 78 4, o 79 (.bin .neq (.t 78) (i 0))]) (.cond (.t 79) (.seq (.reg [m 80 4, o 2 (.mov (z #[])), m 3 80]) (.ret)) (.skip))) (.seq (.reg [m
 81 5, o 82 (.call 47 [.t 81, .k (.val (.str ⟨#[44, 32]⟩))]), m 2 82, o 3 (.mov (i 0))]) (.ret))
/-- impl.EndpointsText -/
def ir16 : PC := .seq (.reg [o 2 (.mov (z #[])), o 3 (.mov (i 0))]) (.seq (.reg [m 8 0, o 9 (.len (.t 8)), o 10 (.call 43 [.t 9]), m 11 0, o 12 (.len (.t 11)), o 13 (.bin .leq (.t
 12) (i 4)), o 14 (.call 44 [.t 13, .k (.val (.int .i64 6))]), o 15 (.lit 3 1 [.t 10, .t 14]), o 16 (.call 42 [.t 15]), m 4 16]) (.seq (.reg [o 17 (.lit 9 1 []), m 5 17]) (.seq
 (.seq (.reg [m 18 0, o 19 (.len (.t 18)), o 20 (.mov (i 0))]) (.block 0 (.loop (.ghost (.seq (.reg [o 21 (.bin .lss (.t 20) (.t 19))]) (.seq (.cond (.t 21) (.skip) (.exit 0)) (.seq
 (.block 1 (.seq (.reg [o 22 (.iaddr 3 (.t 18) (.t 20)), o 23 (.load true 3 (.t 22)), o 7 (.alloc [.val (.str ⟨#[]⟩), .val (.int .i64 0), .emp 3]), n (.store 3 (.t 7) (.t 23))])
 (.seq (.seq (.reg [m 24 4, o 25 (.bin .neq (.t 24) (i 0))]) (.cond (.t 25) (.exit 0) (.skip))) (.seq (.seq (.reg [o 26 (.load true 3 (.t 7)), o 27 (.call 45 [.t 26]), o 28 (.un
 .not (.t 27)), m 29 28, g 30 29 false (.faddr 1 (.t 7)), g 31 29 false (.load false 1 (.t 30)), g 32 29 false (.bin .neq (.t 31) (i 100)), o 33 (.pick (.t 29) T (.t 32)), m 34 33,
 g 35 34 false (.faddr 2 (.t 7)), g 36 34 false (.load false 1 (.t 35)), g 37 34 false (.len (.t 36)), g 38 34 false (.bin .neq (.t 37) (i 1)), o 39 (.pick (.t 34) T (.t 38)), m 40
 39, g 41 40 false (.faddr 2 (.t 7)), g 42 40 false (.load false 1 (.t 41)), g 43 40 false (.iaddr 3 (.t 42) (i 0)), g 44 40 false (.faddr 1 (.t 43)), g 45 40 false (.load false 1
 (.t 44)), g 46 40 false (.bin .neq (.t 45) (i 1)), o 47 (.pick (.t 40) T (.t 46)), m 48 47, g 49 48 false (.faddr 2 (.t 7)), g 50 48 false (.load false 1 (.t 49)), g 51 48 false
 (.iaddr 3 (.t 50) (i 0)), g 52 48 false (.faddr 2 (.t 51)), g 53 48 false (.load false 1 (.t 52)), g 54 48 false (.bin .neq (.t 53) (i 1)), o 55 (.pick (.t 48) T (.t 54)), m 56 55,
 g 57 56 false (.faddr 2 (.t 7)), g 58 56 false (.load false 1 (.t 57)), g 59 56 false (.iaddr 3 (.t 58) (i 0)), g 60 56 false (.faddr 0 (.t 59)), g 61 56 false (.load false 1 (.t
 60)), g 62 56 false (.call 46 [.t 61, .k (.val (.str ⟨#[34, 92, 44]⟩))]), o 63 (.pick (.t 56) T (.t 62))]) (.cond (.t 63) (.seq (.reg [o 4 (.mov (i 1))]) (.exit 0)) (.skip)))
 (.draw [m 64 5, o 65 (.faddr 0 (.t 7)), l 66 65, o 67 (.bin .add (.t 66) (z #[61, 34])), o 68 (.faddr 2 (.t 7)), l 69 68, o 70 (.iaddr 3 (.t 69) (i 0)), o 71 (.faddr 0 (.t 70)), l
 72 71, o 73 (.bin .add (.t 67) (.t 72)), o 74 (.bin .add (.t 73) (z #[34])), o 75 (.lit 9 1 [.t 74])] [o 76 (.app 9 1 16 (.t 64) (.t 75)), m 5 76]))))) (.reg [o 77 (.bin .add (.t
 20) (i 1)), m 20 77])))))))) (ir16_from4))))
theorem ok16 : chkFn Tryz.prog 16 ir16 1 [.t 2, .t 3] = true := by kernel_rfl
/-- laws.FnExactEndpointsText -/
def ir4 : PC := .seq (.reg [o 2 (.mov F)]) (.seq (.reg [o 3 (.mov (i 1048576))]) (.seq (.reg [m 9 0, m 10 3, o 11 (.call 13 [.t 9, .t 10]), m 3 11]) (.seq (.seq (.reg [m 12 3, o 13
 (.bin .lss (.t 12) (i 0))]) (.cond (.t 13) (.seq (.reg [o 2 (.mov T)]) (.ret)) (.skip))) (.seq (.reg [m 15 0, o 16 (.call 15 [.t 15]), o 17 (.call 14 [.t 16]), m 14 17, o 18 (.ext
 0 (.t 14)), o 19 (.ext 1 (.t 14)), m 4 18, m 5 19]) (.seq (.reg [m 20 0, o 21 (.call 15 [.t 20]), m 6 21]) (.seq (.reg [m 23 6, o 24 (.call 16 [.t 23]), m 22 24, o 25 (.ext 0 (.t
 22)), o 26 (.ext 1 (.t 22)), m 7 25, m 8 26]) (.seq (.seq (.reg [m 27 7, m 28 4, o 29 (.bin .neq (.t 27) (.t 28)), m 30 29, g 31 30 false (.mov (.t 8)), g 32 30 false (.mov (.t
 5)), g 33 30 false (.bin .neq (.t 31) (.t 32)), o 34 (.pick (.t 30) T (.t 33))]) (.cond (.t 34) (.seq (.reg [o 2 (.mov F)]) (.ret)) (.skip))) (.seq (.seq (.reg [m 35 6, m 36 0, o
 37 (.call 15 [.t 36]), o 38 (.call 17 [.t 35, .t 37]), o 39 (.un .not (.t 38))]) (.cond (.t 39) (.seq (.reg [o 2 (.mov F)]) (.ret)) (.skip))) (.seq (.reg [o 2 (.mov T)])
 (.ret))))))))))
theorem ok4 : chkFn Tryz.prog 4 ir4 1 [.t 2] = true := by kernel_rfl
/-- laws.szGroupS -/
def ir13 : PC := .seq (.reg [o 4 (.mov (i 0))]) (.seq (.reg [m 6 1, m 7 0, o 8 (.len (.t 7)), o 9 (.bin .sub (.t 6) (.t 8)), m 1 9]) (.seq (.seq (.reg [m 10 1, o 11 (.bin .lss (.t
 10) (i 0))]) (.cond (.t 11) (.seq (.reg [o 4 (.mov (i (-1)))]) (.ret)) (.skip))) (.seq (.seq (.reg [o 5 (.mov (i 0))]) (.block 0 (.loop (.ghost (.seq (.seq (.reg [m 12 5, m 13 0, o
 14 (.len (.t 13)), o 15 (.bin .lss (.t 12) (.t 14))]) (.cond (.t 15) (.skip) (.exit 0))) (.seq (.block 1 (.seq (.reg [m 18 0, m 19 5, o 20 (.iaddr 3 (.t 18) (.t 19)), o 21 (.load
 true 3 (.t 20)), m 22 1, o 23 (.call 23 [.t 21, .t 22]), m 1 23]) (.seq (.reg [m 24 1, o 25 (.bin .lss (.t 24) (i 0))]) (.cond (.t 25) (.seq (.reg [o 4 (.mov (i (-1)))]) (.ret))
 (.skip))))) (.reg [m 16 5, o 17 (.bin .add (.t 16) (i 1)), m 5 17]))))))) (.seq (.reg [m 26 1, m 4 26]) (.ret)))))
theorem ok13 : chkFn Tryz.prog 13 ir13 2 [.t 4] = true := by kernel_rfl
/-- laws.toGroupS -/
def ir15 : PC := .seq (.reg [o 2 (.mov (.k (.emp 3)))]) (.seq (.reg [m 5 0, o 6 (.len (.t 5)), o 7 (.mks 53 3 48 true [.val (.str ⟨#[]⟩), .val (.int .i64 0), .emp 3] (.t 6)), m 3
 7]) (.seq (.seq (.reg [o 4 (.mov (i 0))]) (.block 0 (.loop (.ghost (.seq (.seq (.reg [m 8 4, m 9 0, o 10 (.len (.t 9)), o 11 (.bin .lss (.t 8) (.t 10))]) (.cond (.t 11) (.skip)
 (.exit 0))) (.seq (.block 1 (.reg [m 14 3, m 15 4, m 16 0, m 17 4, o 18 (.iaddr 3 (.t 16) (.t 17)), o 19 (.load true 3 (.t 18)), o 20 (.call 25 [.t 19]), o 21 (.iaddr 3 (.t 14) (.t
 15)), n (.store 3 (.t 21) (.t 20))])) (.reg [m 12 4, o 13 (.bin .add (.t 12) (i 1)), m 4 13]))))))) (.seq (.reg [m 22 3, m 2 22]) (.ret))))
theorem ok15 : chkFn Tryz.prog 15 ir15 1 [.t 2] = true := by kernel_rfl
/-- laws.eqGroupS -/
def ir17 : PC := .seq (.reg [o 4 (.mov F)]) (.seq (.seq (.reg [m 6 0, o 7 (.len (.t 6)), m 8 1, o 9 (.len (.t 8)), o 10 (.bin .neq (.t 7) (.t 9))]) (.cond (.t 10) (.seq (.reg [o 4
 (.mov F)]) (.ret)) (.skip))) (.seq (.seq (.reg [o 5 (.mov (i 0))]) (.block 0 (.loop (.ghost (.seq (.seq (.reg [m 11 5, m 12 0, o 13 (.len (.t 12)), o 14 (.bin .lss (.t 11) (.t
 13))]) (.cond (.t 14) (.skip) (.exit 0))) (.seq (.block 1 (.seq (.draw [m 17 0, m 18 5, o 19 (.iaddr 3 (.t 17) (.t 18)), o 20 (.load true 3 (.t 19)), m 21 1, m 22 5, o 23 (.iaddr 3
 (.t 21) (.t 22)), o 24 (.load true 3 (.t 23))] [o 25 (.call 27 [.t 20, .t 24]), o 26 (.un .not (.t 25))]) (.cond (.t 26) (.seq (.reg [o 4 (.mov F)]) (.ret)) (.skip)))) (.reg [m 15
 5, o 16 (.bin .add (.t 15) (i 1)), m 5 16]))))))) (.seq (.reg [o 4 (.mov T)]) (.ret))))
theorem ok17 : chkFn Tryz.prog 17 ir17 2 [.t 4] = true := by kernel_rfl
end Go.Proofs
end

/- What the law's copies, sizes and comparisons of groups-in-lists come to. MADE BY PROGRAM (gen_types.py). -/
section
set_option maxRecDepth 100000
set_option linter.unusedVariables false
set_option linter.unusedSectionVars false
set_option linter.unusedSimpArgs false
namespace Go.Proofs
open Go.PW Go.KP
attribute [local simp] RV.cells RV.one PV.cells PV.solid PV.one vals? allVal mkAgg setAt RV.ofCells elems PV.killL
variable [GF]

theorem g_szGroupS (l : List LGroup) (left : Int) (h0 : 0 ≤ left) (h1 : left ≤ 1048576) (hx : bdS 9223372036854775807 (bdGroup 9223372036854775807) l) : CallOK Tryz.prog 13 [.val (.list 3 (l.map rvGroup)), .val (num left)] (.ret (.val (num (cut left (zS zGroup l)))) []) [] := by
  refine call_val mixed ok13 rfl (fun _ => rfl) ?_
  unfold ir13
  rw [evalC_intro]
  have hl : l.length ≤ 9223372036854775807 := hx.1
  have hw : IntKind.i64.wrap (left - (l.length : Int)) = left - l.length := wrap_i64 (by omega) (by omega)
  have hzs : zS zGroup l = l.length + lsum zGroup l := rfl
  by_cases h : left - (l.length : Int) < 0
  · rw [cut_neg (by omega)]
    simp [initSt, avPVs, avPV, avBoxesL, avBoxes, num, hw, h]
  · simp [initSt, avPVs, avPV, avBoxesL, avBoxes, num, hw, h]
    refine loop_EC (X := Nat) (fun i => ⟨envOf [(0, .val (.list 3 (l.map rvGroup))), (1, .val (num (left - l.length - (lsum zGroup (l.take i) : Nat)))), (5, .val (num i))], memOf []⟩) (fun i => i ≤ l.length ∧ 0 ≤ left - l.length - (lsum zGroup (l.take i) : Nat)) (fun i => l.length - i) 0 (Le.mk _ _ ?_ ?_) ?_ ?_
    · simp [upd, num, lsum, PV.kill]
    · simp
    · simp [lsum]; omega
    · rintro i ⟨hi, hg⟩
      simp [num]
      refine iteP_intro (fun h2 => ?_) (fun h2 => ?_)
      · have e1 : (l.map rvGroup)[i]?.getD .nilptr = rvGroup l[i] := by simp [List.getElem?_eq_getElem h2]
        have hsn : lsum zGroup (l.take (i + 1)) = lsum zGroup (l.take i) + zGroup l[i] := lsum_take _ h2
        have hle := lsum_le (f := zGroup) l (i + 1)
        simp [num, h2, e1, rvGroup, tx]
        refine callS_val rfl rfl (.inl rfl) (g_szGroup l[i] (left - l.length - (lsum zGroup (l.take i) : Nat)) (by omega) (by omega) (hx.2 _ (List.getElem_mem h2))) ?_
        by_cases h3 : left - (l.length : Int) - (lsum zGroup (l.take i) : Int) - (zGroup l[i] : Int) < 0
        · have c1 : cut (left - l.length - (lsum zGroup (l.take i) : Nat)) (zGroup l[i]) = -1 := cut_neg (by omega)
          have c2 : cut left (zS zGroup l) = -1 := cut_neg (by omega)
          rw [c1, c2]
          simp [num]
        · have c1 : cut (left - l.length - (lsum zGroup (l.take i) : Nat)) (zGroup l[i]) = left - l.length - (lsum zGroup (l.take i) : Nat) - (zGroup l[i] : Nat) := cut_pos (by omega)
          rw [c1]
          simp [num, h3]
          refine LoopNext.mk (i + 1) ⟨by omega, by omega⟩ (by omega) (Le.mk _ _ ?_ ?_)
          · simp [num]
            exact ⟨by omega, wrap_i64 (by omega) (by omega)⟩
          · simp
      · have e1 : i = l.length := by omega
        subst e1
        rw [List.take_length] at *
        rw [cut_pos (by omega)]
        simp [num]
        omega

theorem g_toGroupS (l : List LGroup) (hx : bdS 1048576 (bdGroup 1048576) l) : CallOK Tryz.prog 15 [.val (.list 3 (l.map rvGroup))] (.ret (.val (.list 3 (l.map rvGroup))) []) [] := by
  refine call_val mixed ok15 rfl (fun _ => rfl) ?_
  unfold ir15
  rw [evalC_intro]
  have hl : l.length ≤ 1048576 := hx.1
  simp [initSt, avPVs, avPV, avBoxesL, avBoxes, num, vals?]
  refine ⟨by omega, by omega, ?_⟩
  refine loop_EC (X := Nat) (fun i => ⟨envOf [(0, .val (.list 3 (l.map rvGroup))), (3, .own 7), (4, .val (num i))], memOf [(7, .row 53 3 (upTo rvGroup (.agg [.str (bs []), .int .i64 0, .list 3 []]) l i))]⟩) (fun i => i ≤ l.length) (fun i => l.length - i) 0 (Le.mk _ _ ?_ ?_) ?_ ?_
  · simp [upd, num, PV.kill]
  · simp [upd, num, bs, upTo_zero]
  · simp
  · intro i hi
    have hlen := upTo_len rvGroup (.agg [.str (bs []), .int .i64 0, .list 3 []]) l i hi
    simp [num, vals?]
    refine iteP_intro (fun h1 => ?_) (fun h1 => ?_)
    · have e1 : (l.map rvGroup)[i]?.getD .nilptr = rvGroup l[i] := by simp [List.getElem?_eq_getElem h1]
      have e2 := upTo_at rvGroup (.agg [.str (bs []), .int .i64 0, .list 3 []]) l i h1
      have e3 := upTo_set rvGroup (.agg [.str (bs []), .int .i64 0, .list 3 []]) l i h1
      have e4 : (upTo rvGroup (.agg [.str (bs []), .int .i64 0, .list 3 []]) l i)[i]'(by omega) = (.agg [.str (bs []), .int .i64 0, .list 3 []]) := by
        have h9 := e2
        rw [List.getElem?_eq_getElem (show i < (upTo rvGroup (.agg [.str (bs []), .int .i64 0, .list 3 []]) l i).length by omega)] at h9
        exact h9
      simp [num, h1, e1, rvGroup, tx, hlen, vals?]
      refine callS_val rfl rfl (.inl rfl) (g_toGroup l[i] (hx.2 _ (List.getElem_mem h1))) ?_
      simp [num, h1, e1, e2, rvGroup, tx, hlen, vals?]
      refine LoopNext.mk (i + 1) (by omega) (by omega) (Le.mk _ _ ?_ ?_)
      · simp [num]; exact wrap_i64 (by omega) (by omega)
      · rw [← e3]
        simp [rvGroup, num, tx, e4]
    · have e1 : i = l.length := by omega
      subst e1
      simp [num, upTo_all, frzOf, PV.pl]

theorem g_eqGroupS (l : List LGroup) (hx : bdS 1048576 (bdGroup 1048576) l) : CallOK Tryz.prog 17 [.val (.list 3 (l.map rvGroup)), .val (.list 3 (l.map rvGroup))] (.ret (.val (.bool true)) []) [] := by
  refine call_val mixed ok17 rfl (fun _ => rfl) ?_
  unfold ir17
  rw [evalC_intro]
  have hl : l.length ≤ 1048576 := hx.1
  simp [initSt, avPVs, avPV, avBoxesL, avBoxes, num]
  refine loop_EC (X := Nat) (fun i => ⟨envOf [(0, .val (.list 3 (l.map rvGroup))), (1, .val (.list 3 (l.map rvGroup))), (5, .val (num i))], memOf []⟩) (fun i => i ≤ l.length) (fun i => l.length - i) 0 (Le.mk _ _ ?_ ?_) ?_ ?_
  · simp [upd, num, PV.kill]
  · simp
  · simp
  · intro i hi
    simp [num]
    refine iteP_intro (fun h1 => ?_) (fun h1 => ?_)
    · have e1 : (l.map rvGroup)[i]?.getD .nilptr = rvGroup l[i] := by simp [List.getElem?_eq_getElem h1]
      simp [num, h1, e1, rvGroup, tx]
      refine callS_val rfl rfl (.inl rfl) (g_eqGroup l[i] (hx.2 _ (List.getElem_mem h1))) ?_
      simp
      refine LoopNext.mk (i + 1) (by omega) (by omega) (Le.mk _ _ ?_ ?_)
      · simp [num]; exact wrap_i64 (by omega) (by omega)
      · simp
    · simp

end Go.Proofs
end

/- The header of endpoints by the reference and by the program; the law of EndpointsText. -/
section
set_option maxRecDepth 100000
set_option linter.unusedVariables false
set_option linter.unusedSectionVars false
set_option linter.unusedSimpArgs false
namespace Go.Proofs
open Go.PW Go.KP
attribute [local simp] RV.cells RV.one PV.cells PV.solid PV.one vals? allVal mkAgg setAt RV.ofCells elems PV.killL
variable [GH]
theorem c_l03Plain (g : LGroup) (hb : bdGroup 1048576 g) : CallOK Tryz.prog 41 [.val (rvGroup g)] (.ret (.val (.bool (lplain g))) []) [] := by
  have hO := c_l03OK g hb
  have hl : ∀ x ∈ g.targets, x.url.length ≤ 1048576 := fun x hx => (hb.2.2 x hx)
  obtain ⟨r, hr⟩ : ∃ r, lplain g = r := ⟨_, rfl⟩
  rw [hr]
  obtain ⟨gn, ga, gt⟩ := g
  refine call_val mixed ok41 rfl (fun _ => rfl) ?_
  unfold ir41
  rw [evalC_intro]
  simp [initSt, avPVs, avPV, avBoxesL, avBoxes, tx, num, rvGroup, allVal]
  refine callX_val rfl rfl (.inl rfl) hO ?_
  unfold lplain at hr
  cases h : lgroupOK ⟨gn, ga, gt⟩ with
  | false =>
    rw [h] at hr
    simp at hr
    subst hr
    simp [tx, num]
  | true =>
    rw [h] at hr
    match gt, hl with
    | [], _ =>
      obtain rfl : r = false := by rw [← hr]; rfl
      simp [tx, num]
    | x :: y :: t, _ =>
      obtain rfl : r = false := by rw [← hr]; simp
      have : ¬ ((t.length : Int) + 1 + 1 = 1) := by omega
      simp [tx, num, this]
    | [x], hl =>
      have hx := hl x (by simp)
      simp only [gT, List.getD_cons_zero, List.length_cons, List.length_nil] at hr
      by_cases a1 : x.prio = 1
      · by_cases a2 : x.weight = 1
        · by_cases a3 : ga = 100
          · simp [tx, num, rvTarget, a1, a2, a3, bs_size]
            have f : ∀ c : UInt8, ((lfind x.url c : Int) = (x.url.length : Int)) ↔ c ∉ x.url := fun c => by rw [← lfind_no]; omega
            refine callX_val rfl rfl (.inl rfl) (c_l01Find x.url 34 (by omega)) ?_
            by_cases a4 : 34 ∈ x.url
            · simp [a4] at hr
              subst hr
              simp [tx, num, rvTarget, f, a4, bs_size]
            · simp [tx, num, rvTarget, f, a4, bs_size]
              refine callX_val rfl rfl (.inl rfl) (c_l01Find x.url 92 (by omega)) ?_
              by_cases a5 : 92 ∈ x.url
              · simp [a5] at hr
                subst hr
                simp [tx, num, rvTarget, f, a4, a5, bs_size]
              · simp [tx, num, rvTarget, f, a4, a5, bs_size]
                refine callX_val rfl rfl (.inl rfl) (c_l01Find x.url 44 (by omega)) ?_
                simp [a1, a2, a3, a4, a5] at hr
                by_cases a6 : 44 ∈ x.url
                · simp [a6] at hr
                  subst hr
                  simp [tx, num, rvTarget, f, a4, a5, a6, bs_size]
                · simp [a6] at hr
                  subst hr
                  simp [tx, num, rvTarget, f, a4, a5, a6, bs_size]
          · simp [a1, a2, a3] at hr
            subst hr
            simp [tx, num, rvTarget, a1, a2, a3, bs_size]
        · simp [a1, a2] at hr
          subst hr
          simp [tx, num, rvTarget, a1, a2, bs_size]
      · simp [a1] at hr
        subst hr
        simp [tx, num, rvTarget, a1, bs_size]
theorem groups_at {l : List LGroup} {i : Nat} (h : i < l.length) : (l.map rvGroup)[i]?.getD .nilptr = rvGroup l[i] := by simp [List.getElem?_eq_getElem h]
def lacc (l : List LGroup) (i : Nat) : Tx := ljoin [44, 32] ((l.take i).map lepart)
theorem lacc_zero (l : List LGroup) : lacc l 0 = [] := rfl
theorem lacc_all (l : List LGroup) : lacc l l.length = ljoin [44, 32] (l.map lepart) := by unfold lacc; rw [List.take_length]
theorem lacc_succ (l : List LGroup) (i : Nat) (h : i < l.length) : lacc l (i + 1) = lacc l i ++ ((if i = 0 then [] else [44, 32]) ++ lepart l[i]) := by
  have hst := ljoin_take [44, 32] (l.map lepart) i (by simpa using h)
  rw [← List.map_take, ← List.map_take, List.getElem_map] at hst
  exact hst
theorem c_EndpointsText (l : List LGroup) (hb : bdS 1048576 (bdGroup 1048576) l) : CallOK Tryz.prog 14 [.val (.list 3 (l.map rvGroup))] (.ret (tRes (letRes l)) []) [] := by
  obtain ⟨r, hr⟩ : ∃ r, letRes l = r := ⟨_, rfl⟩
  rw [hr]
  refine call_val mixed ok14 rfl (fun _ => rfl) ?_
  unfold ir14
  rw [evalC_intro]
  unfold letRes letC at hr
  by_cases h1 : 4096 < l.length
  · simp [h1] at hr
    subst hr
    have g1 : (4096 : Int) < l.length := by omega
    simp [initSt, avPVs, avPV, avBoxesL, avBoxes, num, g1, tRes, tx, bs]
  by_cases h2 : 4 < l.length
  · simp [h1, h2] at hr
    subst hr
    have g1 : ¬ (4096 : Int) < l.length := by omega
    have g2 : (4 : Int) < l.length := by omega
    simp [initSt, avPVs, avPV, avBoxesL, avBoxes, num, g1, g2, tRes, tx, bs]
  simp [h1, h2] at hr
  have g1 : ¬ (4096 : Int) < l.length := by omega
  have g2 : ¬ (4 : Int) < l.length := by omega
  simp [initSt, avPVs, avPV, avBoxesL, avBoxes, num, g1, g2]
  have hpl : ∀ i, (∀ g ∈ l.take i, lplain g = true) → (lacc l i).length ≤ 488 := fun i hi => by
    unfold lacc
    have := ljoin_len (B := 122) (sep := [44, 32]) (xs := (l.take i).map lepart) (fun x hx => by
      obtain ⟨g, hg, rfl⟩ := List.mem_map.1 hx
      have := lepart_len (hi g hg)
      simp; omega)
    rw [List.length_map, List.length_take] at this
    have h3 : min i l.length * 122 ≤ 4 * 122 := Nat.mul_le_mul_right _ (by omega)
    omega
  refine loop_EC (X := Nat) (fun i => ⟨envOf [(0, .val (.list 3 (l.map rvGroup))), (4, .val (tx (lacc l i))), (5, .val (num i))], memOf []⟩) (fun i => i ≤ l.length ∧ ∀ g ∈ l.take i, lplain g = true) (fun i => l.length - i) 0 (Le.mk _ _ ?_ ?_) ?_ ?_
  · simp [upd, num, tx, lacc_zero, bs]
  · simp
  · simp
  · rintro i ⟨hi, hall⟩
    have hlen := hpl i hall
    simp [num, tx]
    refine iteP_intro (fun h3 => ?_) (fun h3 => ?_)
    · obtain ⟨g, hg⟩ : ∃ g, l[i] = g := ⟨_, rfl⟩
      have hgm : g ∈ l := by rw [← hg]; exact List.getElem_mem h3
      have hP := c_l03Plain g (hb.2 g hgm)
      have e1 := groups_at h3
      rw [hg] at e1
      have wi : IntKind.i64.wrap ((i : Int) + 1) = ((i + 1 : Nat) : Int) := by rw [wrap_i64 (by omega) (by omega)]; omega
      have hst := lacc_succ l i h3
      rw [hg] at hst
      obtain ⟨gn, ga, gt⟩ := g
      simp [num, tx, h3, hg, rvGroup]
      refine callS_val rfl rfl (.inl rfl) hP ?_
      cases hp : lplain ⟨gn, ga, gt⟩ with
      | false =>
        have : ¬ ∀ x ∈ l, lplain x = true := fun h => by rw [h _ hgm] at hp; cases hp
        rw [if_neg this] at hr
        subst hr
        simp [tx, num, tRes, bs]
      | true =>
        obtain ⟨p1, p2, p3, p4⟩ := lplain_parts hp
        obtain ⟨y, hy⟩ : ∃ y, gT ⟨gn, ga, gt⟩ = y := ⟨_, rfl⟩
        rw [hy] at p2 p3
        simp only at p2 p4
        subst p2
        obtain ⟨A, hA⟩ : ∃ A, lacc l i = A := ⟨_, rfl⟩
        rw [hA] at hst hlen ⊢
        have hall' : ∀ x ∈ l.take (i + 1), lplain x = true := fun x hx => by
          rw [List.take_add_one, List.getElem?_eq_getElem h3, hg] at hx
          rcases List.mem_append.1 hx with hx | hx
          · exact hall x hx
          · rw [Option.toList_some, List.mem_singleton] at hx; subst hx; exact hp
        simp [tx, num]
        refine iteP_intro (fun h0 => ?_) (fun h0 => ?_)
        · rw [if_neg (by omega)] at hst
          simp [tx, num, h3, hg, rvGroup, rvTarget, bs_size, bs_mk, bs_append]
          refine ⟨by omega, by omega, by omega, by omega, by omega, LoopNext.mk (i + 1) ⟨h3, hall'⟩ (by omega) (Le.mk _ _ ?_ ?_)⟩
          · simp [num, tx, wi, hst, lepart, hy]
          · simp
        · rw [if_pos (by omega)] at hst
          simp [tx, num, h3, hg, rvGroup, rvTarget, bs_size, bs_mk, bs_append]
          refine ⟨by omega, by omega, by omega, by omega, LoopNext.mk (i + 1) ⟨h3, hall'⟩ (by omega) (Le.mk _ _ ?_ ?_)⟩
          · simp [num, tx, wi, hst, lepart, hy]
          · simp
    · have e : i = l.length := by omega
      subst e
      rw [List.take_length] at hall
      rw [if_pos hall] at hr
      subst hr
      simp [tx, num, tRes, lacc_all]
theorem iet_from4 (code : Int) (ps : List Tx) (r : Tx × Int) (hr : (if code = 0 then (ljoin [44, 32] ps, 0) else ([], code)) = r) (hl : (ljoin [44, 32] ps).length ≤ 140737488355328) (hn : ps.length ≤ 4096) (st : St) (e4 : st.env 4 = .val (num code)) (e5 : st.env 5 = .own 17) (m17 : st.mem 17 = .row 9 1 (ps.map tx)) :
    EC Tryz.prog ir16_from4 st (K := ⟨RetP [.t 2, .t 3] (tRes r)⟩) := by
  subst hr
  unfold ir16_from4
  by_cases hc : code = 0
  · subst hc
    simp [e4, e5, num, tx]
    refine callS_val («as» := [.val (.list 1 (ps.map tx)), .val (tx [44, 32])]) (by simp [avsOf, avOf, m17]; rfl) rfl (.inr rfl) (i_Join ps [44, 32] hl (by omega)) ?_
    simp [tRes, tx, num]
  · simp [e4, e5, num, tx, hc, tRes, bs]
def lps (l : List LGroup) (i : Nat) : List Tx := (l.take i).map lepart
theorem lps_zero (l : List LGroup) : lps l 0 = [] := rfl
theorem lps_all (l : List LGroup) : lps l l.length = l.map lepart := by unfold lps; rw [List.take_length]
theorem lps_len (l : List LGroup) (i : Nat) : (lps l i).length ≤ l.length := by unfold lps; rw [List.length_map, List.length_take]; omega
theorem lps_succ (l : List LGroup) (i : Nat) (h : i < l.length) : lps l (i + 1) = lps l i ++ [lepart l[i]] := by
  unfold lps; rw [List.take_add_one, List.getElem?_eq_getElem h, List.map_append]; rfl
theorem hasAny_url {t : Tx} : (lhasAny t [34, 92, 44] = true) ↔ (34 ∈ t ∨ 92 ∈ t ∨ 44 ∈ t) := by
  unfold lhasAny
  rw [List.any_eq_true]
  constructor
  · rintro ⟨c, hc, h⟩
    simp at h
    rcases h with rfl | rfl | rfl
    · exact .inl hc
    · exact .inr (.inl hc)
    · exact .inr (.inr hc)
  · rintro (h | h | h)
    · exact ⟨34, h, by decide⟩
    · exact ⟨92, h, by decide⟩
    · exact ⟨44, h, by decide⟩
theorem letC_first (n : Nat) : lfirst [if (n : Int) ≤ 4096 then 0 else 2, if (n : Int) ≤ 4 then 0 else 6] = letC n := by
  unfold letC
  by_cases h1 : 4096 < n
  · have : ¬ (n : Int) ≤ 4096 := by omega
    rw [if_neg this, if_pos h1]; simp [lfirst]
  · have : (n : Int) ≤ 4096 := by omega
    rw [if_pos this, if_neg h1, lfirst_zero]
    by_cases h2 : 4 < n
    · have : ¬ (n : Int) ≤ 4 := by omega
      rw [if_pos h2, if_neg this]; simp [lfirst]
    · have : (n : Int) ≤ 4 := by omega
      rw [if_neg h2, if_pos this]; simp [lfirst]
theorem i_EndpointsText (l : List LGroup) (hb : bdS 1048576 (bdGroup 1048576) l) : CallOK Tryz.prog 16 [.val (.list 3 (l.map rvGroup))] (.ret (tRes (letRes l)) []) [] := by
  obtain ⟨r, hr⟩ : ∃ r, letRes l = r := ⟨_, rfl⟩
  rw [hr]
  refine call_val mixed ok16 rfl (fun _ => rfl) ?_
  unfold ir16
  rw [evalC_intro]
  unfold letRes at hr
  simp [initSt, avPVs, avPV, avBoxesL, avBoxes, num]
  refine callS_val rfl rfl (.inl rfl) (i_longList l.length) ?_
  simp [num]
  refine callS_val rfl rfl (.inl rfl) (i_unless (decide ((l.length : Int) ≤ 4)) 6) ?_
  simp [num, elems, RV.one, allVal]
  have hF := i_first [if (l.length : Int) ≤ 4096 then 0 else 2, if (l.length : Int) ≤ 4 then 0 else 6] (by simp)
  rw [letC_first] at hF
  refine callS_val (by rfl) rfl (.inr rfl) hF ?_
  have hpl : ∀ i, (∀ g ∈ l.take i, lplain g = true) → l.length ≤ 4 → (lacc l i).length ≤ 488 := fun i hi h4 => by
    unfold lacc
    have := ljoin_len (B := 122) (sep := [44, 32]) (xs := (l.take i).map lepart) (fun x hx => by
      obtain ⟨g, hg, rfl⟩ := List.mem_map.1 hx
      have := lepart_len (hi g hg)
      simp; omega)
    rw [List.length_map, List.length_take] at this
    have h3 : min i l.length * 122 ≤ 4 * 122 := Nat.mul_le_mul_right _ (by omega)
    omega
  have hc4 : letC l.length = 0 → l.length ≤ 4 := fun h => by
    unfold letC at h
    by_cases h1 : 4096 < l.length
    · rw [if_pos h1] at h; cases h
    · rw [if_neg h1] at h
      by_cases h2 : 4 < l.length
      · rw [if_pos h2] at h; cases h
      · omega
  generalize hcd : letC l.length = code at hr hc4 hF ⊢
  simp [num, elems, RV.one, allVal]
  refine loop_EC (X := Nat) (fun i => ⟨envOf [(4, .val (num code)), (5, .own 17), (18, .val (.list 3 (l.map rvGroup))), (19, .val (num l.length)), (20, .val (num i))], memOf [(17, .row 9 1 ((lps l i).map tx))]⟩) (fun i => i ≤ l.length ∧ (0 < i → code = 0) ∧ ∀ g ∈ l.take i, lplain g = true) (fun i => l.length - i) 0 (Le.mk _ _ ?_ ?_) ?_ ?_
  · simp [upd, num, tx, PV.kill]
  · simp [MObj.kill, lps_zero]
  · simp
  · rintro i ⟨hi, hz, hall⟩
    simp [num]
    refine iteP_intro (fun h3 => ?_) (fun h3 => ?_)
    · obtain ⟨g, hg⟩ : ∃ g, l[i] = g := ⟨_, rfl⟩
      have hgm : g ∈ l := by rw [← hg]; exact List.getElem_mem h3
      obtain ⟨gn, ga, gt⟩ := g
      simp [num, tx, h3, hg, rvGroup, elems]
      by_cases hc : code = 0
      · subst hc
        have h4 := hc4 rfl
        rw [if_pos rfl] at hr
        have hO := i_GroupOK ⟨gn, ga, gt⟩ (hb.2 _ hgm)
        have hgl : ∀ x ∈ gt, x.url.length ≤ 1048576 := fun x hx => (hb.2 _ hgm).2.2 x hx
        simp [num, tx, allVal]
        refine callS_val rfl rfl (.inl rfl) hO ?_
        have hbad : lplain ⟨gn, ga, gt⟩ = false → r = ([], 1) := fun h => by
          have : ¬ l.all lplain = true := fun hh => by
            rw [List.all_eq_true] at hh
            rw [hh _ hgm] at h; cases h
          rw [if_neg this] at hr
          exact hr.symm
        have hps := lps_len l i
        have hpj : (ljoin [44, 32] (lps l i)).length ≤ 140737488355328 := by have := hpl i hall h4; unfold lacc at this; unfold lps; omega
        have hst := lps_succ l i h3
        rw [hg] at hst
        generalize lps l i = ps at *
        cases h : lgroupOK ⟨gn, ga, gt⟩ with
        | false =>
          obtain rfl := hbad (by unfold lplain; rw [h]; rfl)
          simp [tx, num]
          refine iet_from4 1 ps ([], 1) (if_neg (by decide)) hpj (by omega) _ ?_ ?_ ?_
          all_goals simp [num, tx, MObj.kill]
        | true =>
          unfold lplain at hbad
          rw [h] at hbad
          by_cases a3 : ga = 100
          rotate_left
          · obtain rfl := hbad (by simp [a3])
            simp [tx, num, rvTarget, bs_size, a3]
            refine iet_from4 1 ps ([], 1) (if_neg (by decide)) hpj (by omega) _ ?_ ?_ ?_
            all_goals simp [num, tx, MObj.kill]
          match gt, hgl with
          | [], _ =>
            obtain rfl := hbad (by simp)
            simp [tx, num, rvTarget, bs_size, a3]
            refine iet_from4 1 ps ([], 1) (if_neg (by decide)) hpj (by omega) _ ?_ ?_ ?_
            all_goals simp [num, tx, MObj.kill]
          | x :: y :: t, _ =>
            obtain rfl := hbad (by simp)
            have : ¬ ((t.length : Int) + 1 + 1 = 1) := by omega
            simp [tx, num, rvTarget, bs_size, a3, this]
            refine iet_from4 1 ps ([], 1) (if_neg (by decide)) hpj (by omega) _ ?_ ?_ ?_
            all_goals simp [num, tx, MObj.kill]
          | [x], hgl =>
            have hx := hgl x (by simp)
            simp only [gT, List.getD_cons_zero, List.length_cons, List.length_nil] at hbad
            by_cases a1 : x.prio = 1
            rotate_left
            · obtain rfl := hbad (by simp [a1])
              simp [tx, num, rvTarget, bs_size, a3, a1]
              refine iet_from4 1 ps ([], 1) (if_neg (by decide)) hpj (by omega) _ ?_ ?_ ?_
              all_goals simp [num, tx, MObj.kill]
            by_cases a2 : x.weight = 1
            rotate_left
            · obtain rfl := hbad (by simp [a2])
              simp [tx, num, rvTarget, bs_size, a3, a1, a2]
              refine iet_from4 1 ps ([], 1) (if_neg (by decide)) hpj (by omega) _ ?_ ?_ ?_
              all_goals simp [num, tx, MObj.kill]
            simp [tx, num, rvTarget, bs_size, a3, a1, a2]
            refine callS_val rfl rfl (.inl rfl) (c_ContainsAnyU x.url [34, 92, 44] (by omega) (by simp) (by simp) (by decide)) ?_
            by_cases hp : 34 ∈ x.url ∨ 92 ∈ x.url ∨ 44 ∈ x.url
            · rw [hasAny_url.2 hp]
              obtain rfl := hbad (by rcases hp with h | h | h <;> simp [h])
              simp [tx, num, rvTarget, bs_size]
              refine iet_from4 1 ps ([], 1) (if_neg (by decide)) hpj (by omega) _ ?_ ?_ ?_
              all_goals simp [num, tx, MObj.kill]
            · have hh : lhasAny x.url [34, 92, 44] = false := by
                cases hq : lhasAny x.url [34, 92, 44] with
                | false => rfl
                | true => exact absurd (hasAny_url.1 hq) hp
              rw [hh]
              have hgood : lplain ⟨gn, ga, [x]⟩ = true := by
                unfold lplain
                rw [h]
                have h1 : 34 ∉ x.url := fun h => hp (.inl h)
                have h2 : 92 ∉ x.url := fun h => hp (.inr (.inl h))
                have h5 : 44 ∉ x.url := fun h => hp (.inr (.inr h))
                simp [gT, a1, a2, a3, h1, h2, h5]
              obtain ⟨_, _, p3, p4⟩ := lplain_parts hgood
              have p3' : x.url.length ≤ 100 := p3
              have wi : IntKind.i64.wrap ((i : Int) + 1) = ((i + 1 : Nat) : Int) := by rw [wrap_i64 (by omega) (by omega)]; omega
              have hall' : ∀ y ∈ l.take (i + 1), lplain y = true := fun y hy => by
                rw [List.take_add_one, List.getElem?_eq_getElem h3, hg] at hy
                rcases List.mem_append.1 hy with hy | hy
                · exact hall y hy
                · rw [Option.toList_some, List.mem_singleton] at hy; subst hy; exact hgood
              simp only at p4
              simp [tx, num, rvTarget, bs_size, bs_mk, bs_append, elems, RV.one, allVal]
              refine ⟨by omega, by omega, by omega, by omega, by omega, LoopNext.mk (i + 1) ⟨h3, fun _ => rfl, hall'⟩ (by omega) (Le.mk _ _ ?_ ?_)⟩
              · simp [num, wi]
              · rw [hst]; simp [tx, lepart, gT]
      · obtain rfl : i = 0 := by
          by_cases h0 : 0 < i
          · exact absurd (hz h0) hc
          · omega
        rw [if_neg hc] at hr
        subst hr
        simp [num, tx, hc]
        refine iet_from4 code [] ([], code) (if_neg hc) (by simp [ljoin]) (by simp) _ ?_ ?_ ?_
        all_goals simp [num, tx, lps_zero, lps, MObj.kill]
    · have e : i = l.length := by omega
      subst e
      simp [num, tx]
      have hps : (l.map lepart).length = l.length := by simp
      by_cases hc : code = 0
      · subst hc
        have h4 := hc4 rfl
        rw [List.take_length] at hall
        rw [if_pos rfl, if_pos (List.all_eq_true.2 hall)] at hr
        subst hr
        have hl := hpl l.length (by rw [List.take_length]; exact hall) h4
        rw [lacc_all] at hl
        refine iet_from4 0 (l.map lepart) _ (if_pos rfl) (by omega) (by omega) _ ?_ ?_ ?_
        all_goals simp [num, tx, lps_all]
      · have h0 : ¬ 0 < l.length := fun h => hc (hz h)
        obtain rfl : l = [] := List.length_eq_zero_iff.1 (by omega)
        rw [if_neg hc] at hr
        subst hr
        refine iet_from4 code [] ([], code) (if_neg hc) (by simp [ljoin]) (by simp) _ ?_ ?_ ?_
        all_goals simp [num, tx, lps_zero, lps, MObj.kill]
theorem law_EndpointsText (l : List LGroup) (hb : bdS 9223372036854775807 (bdGroup 9223372036854775807) l) : CallOK Tryz.prog 4 [.val (.list 3 (l.map rvGroup))] (.ret (.val (.bool true)) []) [] := by
  refine call_val mixed ok4 rfl (fun _ => rfl) ?_
  unfold ir4
  rw [evalC_intro]
  simp [initSt, avPVs, avPV, avBoxesL, avBoxes, num, allVal]
  refine callS_val rfl rfl (.inl rfl) (g_szGroupS l 1048576 (by omega) (by omega) hb) ?_
  by_cases hz : cut 1048576 (zS zGroup l) < 0
  · simp [num, hz]
  · obtain ⟨hz1, _⟩ := cut_small hz (by omega)
    have hs : bdS 1048576 (bdGroup 1048576) l := bdS_of (fun _ h => zGroup_bd h) (by omega)
    simp [num, hz, allVal]
    refine callS_val rfl rfl (.inl rfl) (g_toGroupS l hs) ?_
    simp [allVal]
    refine callS_pv rfl rfl (fun _ => rfl) rfl (.inl rfl) (c_EndpointsText l hs) ?_
    simp [allVal, tx, num, tRes]
    refine callS_val rfl rfl (.inl rfl) (g_toGroupS l hs) ?_
    simp [allVal, tx, num]
    refine callS_pv rfl rfl (fun _ => rfl) rfl (.inl rfl) (i_EndpointsText l hs) ?_
    simp [allVal, tx, tRes, num]
    refine callS_val rfl rfl (.inl rfl) (g_toGroupS l hs) ?_
    simp [allVal, tx, num]
    refine callS_val rfl rfl (.inl rfl) (g_eqGroupS l hs) ?_
    simp
end Go.Proofs
end
