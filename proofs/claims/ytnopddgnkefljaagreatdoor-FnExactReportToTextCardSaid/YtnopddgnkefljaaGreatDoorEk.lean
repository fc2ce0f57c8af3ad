/- Ek: merged out of IRjj, KJi, KJj, KJk. -/
import Derived.Test.YtnopddgnkefljaaGreatDoorPWv
import Derived.Test.YtnopddgnkefljaaGreatDoorChecked
import Derived.KernelRfl
import Derived.Test.YtnopddgnkefljaaGreatDoorCa
import Derived.Test.YtnopddgnkefljaaGreatDoorEa
import Derived.Test.YtnopddgnkefljaaGreatDoorAc
import Derived.Test.YtnopddgnkefljaaGreatDoorEj

/- Functions of the seat as data. MADE BY PROGRAM (print_ir.py). -/
section
set_option maxRecDepth 100000
namespace Go.Proofs
open Go.PW Go.PW.I

/-- spec.l02Quote -/
def ir73 : PC := .seq (.reg [o 2 (.mov (z #[]))]) (.seq (.reg [o 3 (.mov (z #[34]))]) (.seq (.seq (.reg [o 4 (.mov (i 0))]) (.block 0 (.loop (.ghost (.seq (.seq (.reg [m 6 4, m 7 0,
 o 8 (.lens (.t 7)), o 9 (.bin .lss (.t 6) (.t 8))]) (.cond (.t 9) (.skip) (.exit 0))) (.seq (.block 1 (.seq (.reg [m 12 0, m 13 4, o 14 (.idx (.t 12) (.t 13)), m 5 14]) (.block 2
 (.seq (.reg [m 23 5, o 24 (.bin .eql (.t 23) (.k (.val (.int .u8 34)))), m 25 24, g 26 25 false (.mov (.t 5)), g 27 25 false (.bin .eql (.t 26) (.k (.val (.int .u8 92)))), o 28
 (.pick (.t 25) T (.t 27)), m 22 28]) (.cond (.t 22) (.reg [m 29 3, m 30 0, m 31 4, m 32 4, o 33 (.bin .add (.t 32) (i 1)), o 34 (.slc 0 (.t 30) (some (.t 31)) (some (.t 33))), o 35
 (.bin .add (z #[92]) (.t 34)), o 36 (.bin .add (.t 29) (.t 35)), m 3 36]) (.seq (.reg [m 38 5, o 39 (.bin .lss (.t 38) (.k (.val (.int .u8 32)))), m 40 39, g 41 40 false (.mov (.t
 5)), g 42 40 false (.bin .gtr (.t 41) (.k (.val (.int .u8 126)))), o 43 (.pick (.t 40) T (.t 42)), m 37 43]) (.cond (.t 37) (.draw [m 44 3, m 45 5, o 46 (.bin .quo (.t 45) (.k
 (.val (.int .u8 16)))), o 47 (.idx (z #[48, 49, 50, 51, 52, 53, 54, 55, 56, 57, 97, 98, 99, 100, 101, 102]) (.t 46)), m 48 5, o 49 (.bin .rem (.t 48) (.k (.val (.int .u8 16)))), o
 50 (.idx (z #[48, 49, 50, 51, 52, 53, 54, 55, 56, 57, 97, 98, 99, 100, 101, 102]) (.t 49)), o 51 (.lit 5 1 [.t 47, .t 50]), o 52 (.tostr (.t 51)), o 53 (.bin .add (z #[92, 117, 48,
 48]) (.t 52)), o 54 (.bin .add (.t 44) (.t 53))] [m 3 54]) (.reg [m 15 3, m 16 0, m 17 4, m 18 4, o 19 (.bin .add (.t 18) (i 1)), o 20 (.slc 0 (.t 16) (some (.t 17)) (some (.t
 19))), o 21 (.bin .add (.t 15) (.t 20)), m 3 21])))))))) (.reg [m 10 4, o 11 (.bin .add (.t 10) (i 1)), m 4 11]))))))) (.seq (.reg [m 55 3, o 56 (.bin .add (.t 55) (z #[34])), m 2
 56]) (.ret))))
theorem ok73 : chkFn Tryz.prog 73 ir73 1 [.t 2] = true := by kernel_rfl
/-- impl.quote -/
def ir103 : PC := .seq (.reg [o 2 (.mov (z #[]))]) (.seq (.reg [o 6 (.lit 5 1 [.k (.val (.int .u8 34))]), m 3 6]) (.seq (.seq (.reg [m 7 0, o 8 (.lens (.t 7)), o 9 (.mov (i 0))])
 (.block 0 (.loop (.ghost (.seq (.reg [o 10 (.bin .lss (.t 9) (.t 8))]) (.seq (.cond (.t 10) (.skip) (.exit 0)) (.seq (.block 1 (.seq (.reg [m 11 9, m 4 11]) (.seq (.reg [m 12 0, m
 13 4, o 14 (.idx (.t 12) (.t 13)), m 5 14]) (.block 2 (.seq (.reg [m 25 5, o 26 (.bin .eql (.t 25) (.k (.val (.int .u8 34)))), m 27 26, g 28 27 false (.mov (.t 5)), g 29 27 false
 (.bin .eql (.t 28) (.k (.val (.int .u8 92)))), o 30 (.pick (.t 27) T (.t 29)), m 24 30]) (.cond (.t 24) (.reg [m 31 3, m 32 5, o 33 (.lit 5 1 [.k (.val (.int .u8 92)), .t 32]), o
 34 (.app 5 1 1 (.t 31) (.t 33)), m 3 34]) (.seq (.reg [m 36 5, o 37 (.conv .i64 (.t 36)), o 38 (.call 80 [.t 37, .k (.val (.int .i64 32)), .k (.val (.int .i64 126))]), m 35 38])
 (.cond (.t 35) (.reg [m 39 3, m 40 5, o 41 (.lit 5 1 [.t 40]), o 42 (.app 5 1 1 (.t 39) (.t 41)), m 3 42]) (.draw [m 15 3, m 16 5, o 17 (.bin .quo (.t 16) (.k (.val (.int .u8
 16)))), o 18 (.idx (z #[48, 49, 50, 51, 52, 53, 54, 55, 56, 57, 97, 98, 99, 100, 101, 102]) (.t 17)), m 19 5, o 20 (.bin .rem (.t 19) (.k (.val (.int .u8 16)))), o 21 (.idx (z
 #[48, 49, 50, 51, 52, 53, 54, 55, 56, 57, 97, 98, 99, 100, 101, 102]) (.t 20)), o 22 (.lit 5 1 [.k (.val (.int .u8 92)), .k (.val (.int .u8 117)), .k (.val (.int .u8 48)), .k (.val
 (.int .u8 48)), .t 18, .t 21])] [o 23 (.app 5 1 1 (.t 15) (.t 22)), m 3 23]))))))))) (.reg [o 43 (.bin .add (.t 9) (i 1)), m 9 43])))))))) (.seq (.reg [m 44 3, o 45 (.lit 5 1 [.k
 (.val (.int .u8 34))]), o 46 (.app 5 1 1 (.t 44) (.t 45)), o 47 (.tostr (.t 46)), m 2 47]) (.ret))))
theorem ok103 : chkFn Tryz.prog 103 ir103 1 [.t 2] = true := by kernel_rfl
def ir36_s49 : PC := .reg [m 49 3, o 50 (.faddr 4 (.t 1)), l 51 50, m 52 4, o 53 (.iaddr 5 (.t 51) (.t 52)), o 54 (.load true 5 (.t 53)), o 55 (.call 36 [.t 54]), o 56 (.bin .add
 (.t 49) (.t 55)), m 3 56]
def ir36_s37 : PC := .seq (.seq (.reg [o 37 (.faddr 0 (.t 1)), l 38 37, o 39 (.bin .eql (.t 38) (i 6))]) (.cond (.t 39) (.reg [m 40 3, o 41 (.faddr 3 (.t 1)), l 42 41, m 43 4, o 44
 (.iaddr 1 (.t 42) (.t 43)), l 45 44, o 46 (.call 73 [.t 45]), o 47 (.bin .add (.t 46) (z #[58])), o 48 (.bin .add (.t 40) (.t 47)), m 3 48]) (.skip))) (ir36_s49)
/-- spec.l02Text -/
def ir36 : PC := .seq (.reg [o 1 (.box (.t 0)), o 2 (.mov (z #[]))]) (.seq (.seq (.reg [o 5 (.faddr 0 (.t 1)), l 6 5]) (.block 0 (.seq (.reg [o 8 (.bin .eql (.t 6) (i 1)), m 7 8])
 (.cond (.t 7) (.seq (.reg [o 2 (.mov (z #[110, 117, 108, 108]))]) (.ret)) (.seq (.reg [o 10 (.bin .eql (.t 6) (i 2)), m 9 10]) (.cond (.t 9) (.seq (.reg [o 11 (.lit 9 1 [.k (.val
 (.str ⟨#[102, 97, 108, 115, 101]⟩)), .k (.val (.str ⟨#[116, 114, 117, 101]⟩))]), o 12 (.faddr 1 (.t 1)), l 13 12, o 14 (.iaddr 1 (.t 11) (.t 13)), l 15 14, m 2 15]) (.ret)) (.seq
 (.reg [o 17 (.bin .eql (.t 6) (i 3)), m 16 17]) (.cond (.t 16) (.seq (.reg [o 18 (.faddr 1 (.t 1)), l 19 18, o 20 (.call 72 [.t 19]), m 2 20]) (.ret)) (.seq (.reg [o 22 (.bin .eql
 (.t 6) (i 4)), m 21 22]) (.cond (.t 21) (.seq (.reg [o 23 (.faddr 2 (.t 1)), l 24 23, o 25 (.call 73 [.t 24]), m 2 25]) (.ret)) (.skip))))))))))) (.seq (.reg [o 3 (.mov (z #[]))])
 (.seq (.seq (.reg [o 4 (.mov (i 0))]) (.block 1 (.loop (.ghost (.seq (.seq (.reg [m 26 4, o 27 (.faddr 4 (.t 1)), l 28 27, o 29 (.len (.t 28)), o 30 (.bin .lss (.t 26) (.t 29))])
 (.cond (.t 30) (.skip) (.exit 1))) (.seq (.block 2 (.seq (.seq (.reg [m 33 4, o 34 (.bin .gtr (.t 33) (i 0))]) (.cond (.t 34) (.reg [m 35 3, o 36 (.bin .add (.t 35) (z #[44])), m 3
 36]) (.skip))) (ir36_s37))) (.reg [m 31 4, o 32 (.bin .add (.t 31) (i 1)), m 4 32]))))))) (.seq (.seq (.reg [o 57 (.faddr 0 (.t 1)), l 58 57, o 59 (.bin .eql (.t 58) (i 5))])
 (.cond (.t 59) (.seq (.reg [m 60 3, o 61 (.bin .add (z #[91]) (.t 60)), o 62 (.bin .add (.t 61) (z #[93])), m 2 62]) (.ret)) (.skip))) (.seq (.reg [m 63 3, o 64 (.bin .add (z
 #[123]) (.t 63)), o 65 (.bin .add (.t 64) (z #[125])), m 2 65]) (.ret))))))
theorem ok36 : chkFn Tryz.prog 36 ir36 1 [.t 2] = true := by kernel_rfl
def ir60_s53 : PC := .reg [m 53 3, m 54 6, o 55 (.lit 9 1 [.t 54]), o 56 (.app 9 1 16 (.t 53) (.t 55)), m 3 56]
def ir60_s41 : PC := .seq (.seq (.reg [o 41 (.faddr 0 (.t 1)), l 42 41, o 43 (.bin .eql (.t 42) (i 6))]) (.cond (.t 43) (.reg [o 44 (.faddr 3 (.t 1)), l 45 44, m 46 4, o 47 (.iaddr
 1 (.t 45) (.t 46)), l 48 47, o 49 (.call 103 [.t 48]), o 50 (.bin .add (.t 49) (z #[58])), m 51 6, o 52 (.bin .add (.t 50) (.t 51)), m 6 52]) (.skip))) (ir60_s53)
/-- (impl.Json).text -/
def ir60 : PC := .seq (.reg [o 1 (.box (.t 0)), o 2 (.mov (z #[]))]) (.seq (.seq (.reg [o 8 (.faddr 0 (.t 1)), l 9 8]) (.block 0 (.seq (.reg [o 11 (.bin .eql (.t 9) (i 2)), m 10
 11]) (.cond (.t 10) (.seq (.reg [o 12 (.lit 9 1 [.k (.val (.str ⟨#[102, 97, 108, 115, 101]⟩)), .k (.val (.str ⟨#[116, 114, 117, 101]⟩))]), o 13 (.faddr 1 (.t 1)), l 14 13, o 15
 (.iaddr 1 (.t 12) (.t 14)), l 16 15, m 2 16]) (.ret)) (.seq (.reg [o 18 (.bin .eql (.t 9) (i 3)), m 17 18]) (.cond (.t 17) (.seq (.reg [o 19 (.faddr 1 (.t 1)), l 20 19, o 21 (.call
 102 [.t 20]), m 2 21]) (.ret)) (.seq (.reg [o 23 (.bin .eql (.t 9) (i 4)), m 22 23]) (.cond (.t 22) (.seq (.reg [o 24 (.faddr 2 (.t 1)), l 25 24, o 26 (.call 103 [.t 25]), m 2 26])
 (.ret)) (.seq (.seq (.reg [o 28 (.bin .eql (.t 9) (i 5)), m 27 28]) (.cond (.t 27) (.skip) (.reg [o 29 (.bin .eql (.t 9) (i 6)), m 27 29]))) (.cond (.t 27) (.seq (.reg [o 30 (.lit
 9 1 []), m 3 30]) (.seq (.seq (.reg [o 31 (.faddr 4 (.t 1)), l 32 31, o 33 (.len (.t 32)), o 34 (.mov (i 0))]) (.block 1 (.loop (.ghost (.seq (.reg [o 35 (.bin .lss (.t 34) (.t
 33))]) (.seq (.cond (.t 35) (.skip) (.exit 1)) (.seq (.block 2 (.seq (.reg [m 36 34, o 37 (.iaddr 5 (.t 32) (.t 34)), o 38 (.load true 5 (.t 37)), o 5 (.alloc [.val (.int .i64 0),
 .val (.int .i64 0), .val (.str ⟨#[]⟩), .emp 1, .emp 5]), m 4 36, n (.store 5 (.t 5) (.t 38))]) (.seq (.reg [o 39 (.load true 5 (.t 5)), o 40 (.call 60 [.t 39]), m 6 40])
 (ir60_s41)))) (.reg [o 57 (.bin .add (.t 34) (i 1)), m 34 57])))))))) (.seq (.reg [m 58 3, o 59 (.call 47 [.t 58, .k (.val (.str ⟨#[44]⟩))]), m 7 59]) (.seq (.reg [o 60 (.faddr 0
 (.t 1)), l 61 60, o 62 (.bin .eql (.t 61) (i 6))]) (.cond (.t 62) (.seq (.reg [m 63 7, o 64 (.bin .add (z #[123]) (.t 63)), o 65 (.bin .add (.t 64) (z #[125])), m 2 65]) (.ret))
 (.seq (.reg [m 66 7, o 67 (.bin .add (z #[91]) (.t 66)), o 68 (.bin .add (.t 67) (z #[93])), m 2 68]) (.ret))))))) (.skip))))))))))) (.seq (.reg [o 2 (.mov (z #[110, 117, 108,
 108]))]) (.ret)))
theorem ok60 : chkFn Tryz.prog 60 ir60 1 [.t 2] = true := by kernel_rfl
/-- spec.l03Say -/
def ir76 : PC := .seq (.reg [o 2 (.alloc [.val (.int .i64 0), .val (.int .i64 0), .val (.str ⟨#[]⟩), .emp 1, .emp 5])]) (.seq (.reg [m 3 0, o 4 (.build [.val (.int .i64 0), .val
 (.int .i64 0), .val (.str ⟨#[]⟩), .emp 1, .emp 5] [(0, 1, .k (.val (.int .i64 3))), (1, 1, .t 3)]), n (.store 5 (.t 2) (.t 4))]) (.ret))
theorem ok76 : chkFn Tryz.prog 76 ir76 1 [.c 2 true 5] = true := by kernel_rfl
/-- spec.l03Word -/
def ir74 : PC := .seq (.reg [o 2 (.alloc [.val (.int .i64 0), .val (.int .i64 0), .val (.str ⟨#[]⟩), .emp 1, .emp 5])]) (.seq (.reg [m 3 0, o 4 (.build [.val (.int .i64 0), .val
 (.int .i64 0), .val (.str ⟨#[]⟩), .emp 1, .emp 5] [(0, 1, .k (.val (.int .i64 4))), (2, 1, .t 3)]), n (.store 5 (.t 2) (.t 4))]) (.ret))
theorem ok74 : chkFn Tryz.prog 74 ir74 1 [.c 2 true 5] = true := by kernel_rfl
/-- impl.textOf -/
def ir58 : PC := .seq (.reg [o 2 (.alloc [.val (.int .i64 0), .val (.int .i64 0), .val (.str ⟨#[]⟩), .emp 1, .emp 5])]) (.seq (.reg [m 3 0, o 4 (.build [.val (.int .i64 0), .val
 (.int .i64 0), .val (.str ⟨#[]⟩), .emp 1, .emp 5] [(0, 1, .k (.val (.int .i64 4))), (2, 1, .t 3)]), n (.store 5 (.t 2) (.t 4))]) (.ret))
theorem ok58 : chkFn Tryz.prog 58 ir58 1 [.c 2 true 5] = true := by kernel_rfl
/-- impl.numberOf -/
def ir59 : PC := .seq (.reg [o 2 (.alloc [.val (.int .i64 0), .val (.int .i64 0), .val (.str ⟨#[]⟩), .emp 1, .emp 5])]) (.seq (.reg [m 3 0, o 4 (.build [.val (.int .i64 0), .val
 (.int .i64 0), .val (.str ⟨#[]⟩), .emp 1, .emp 5] [(0, 1, .k (.val (.int .i64 3))), (1, 1, .t 3)]), n (.store 5 (.t 2) (.t 4))]) (.ret))
theorem ok59 : chkFn Tryz.prog 59 ir59 1 [.c 2 true 5] = true := by kernel_rfl
end Go.Proofs
end

/- Quoted texts by the reference and by the program. -/
section
set_option maxRecDepth 100000
set_option linter.unusedVariables false
set_option linter.unusedSectionVars false
set_option linter.unusedSimpArgs false
namespace Go.Proofs
open Go.PW Go.KP
attribute [local simp] RV.cells RV.one PV.cells PV.solid PV.one vals? allVal mkAgg setAt RV.ofCells elems PV.killL
section
variable [GF]

theorem c_l02Quote (t : Tx) (ht : t.length ≤ 1048576) : CallOK Tryz.prog 73 [.val (tx t)] (.ret (.val (tx (lquote t))) []) [] := by
  refine call_val mixed ok73 rfl (fun _ => rfl) ?_
  unfold ir73
  rw [evalC_intro]
  simp [initSt, avPVs, avPV, avBoxesL, avBoxes, tx, num]
  refine loop_EC (X := Nat) (fun i => ⟨envOf [(0, .val (tx t)), (3, .val (tx (34 :: qbody (t.take i)))), (4, .val (num i))], memOf []⟩) (fun i => i ≤ t.length) (fun i => t.length - i) 0 (Le.mk _ _ ?_ ?_) ?_ ?_
  · simp [upd, tx, num, qbody, bs_mk]
  · simp
  · simp
  · intro i hi
    simp [num, tx, bs_size]
    refine iteP_intro (fun h1 => ?_) (fun h1 => ?_)
    · have hq := qbody_len (t.take i)
      have hti : (t.take i).length = i := by simp; omega
      have hsucc := qbody_take t i h1
      obtain ⟨c, hc⟩ : ∃ c, t[i] = c := ⟨_, rfl⟩
      rw [hc] at hsucc
      have e1 : ((c.toNat : Int) = 34) ↔ c.toNat = 34 := by omega
      have e2 : ((c.toNat : Int) = 92) ↔ c.toNat = 92 := by omega
      have e3 : ((c.toNat : Int) < 32) ↔ c.toNat < 32 := by omega
      have e4 : ((126 : Int) < c.toNat) ↔ 126 < c.toNat := by omega
      have wi : IntKind.i64.wrap ((i : Int) + 1) = ((i + 1 : Nat) : Int) := by rw [wrap_i64 (by omega) (by omega)]; omega
      have fin : ∀ st' : St, st'.env 0 = .val (tx t) → st'.env 3 = .val (tx (34 :: (qbody (t.take i) ++ qb c))) → st'.env 4 = .val (num ((i + 1 : Nat) : Int)) → ∃ x', x' ≤ t.length ∧ t.length - x' < t.length - i ∧ Le st' ⟨envOf [(0, .val (tx t)), (3, .val (tx (34 :: qbody (t.take x')))), (4, .val (num x'))], memOf []⟩ := fun st' q0 q3 q4 => by
        refine ⟨i + 1, h1, by omega, Le.mk _ _ ?_ ?_⟩
        · simp [q0, q3, q4, hsucc]
        · simp
      have h256 : c.toNat < 256 := c.toNat_lt
      have hr : (t.drop i).take 1 = [c] := by rw [← hc, List.drop_eq_getElem_cons h1]; rfl
      have hr2 : (t.take (i + 1)).drop i = [c] := by rw [List.drop_take, show i + 1 - i = 1 by omega, hr]
      have wi2 : IntKind.i64.wrap ((i : Int) + 1) = (i : Int) + 1 := wrap_i64 (by omega) (by omega)
      have fin' : ∀ st' : St, st'.env 0 = .val (tx t) → st'.env 3 = .val (tx (34 :: (qbody (t.take i) ++ qb c))) → st'.env 4 = .val (num ((i : Int) + 1)) → ∃ x', x' ≤ t.length ∧ t.length - x' < t.length - i ∧ Le st' ⟨envOf [(0, .val (tx t)), (3, .val (tx (34 :: qbody (t.take x')))), (4, .val (num x'))], memOf []⟩ := fun st' q0 q3 q4 => fin st' q0 q3 (by rw [q4]; rfl)
      by_cases h34 : c.toNat = 34
      · simp [num, tx, bs_size, byteAt_bs, bs_extract, bs_append, bs_mk, hti, h1, hc, e1, e2, e3, e4, h34, wi2, hr2]
        refine ⟨by omega, by omega, fin' _ ?_ ?_ ?_⟩
        · simp [num, tx]
        · simp [num, tx, qb, h34]
        · simp [num, tx]
      by_cases h92 : c.toNat = 92
      · simp [num, tx, bs_size, byteAt_bs, bs_extract, bs_append, bs_mk, hti, h1, hc, e1, e2, e3, e4, h92, wi2, hr2]
        refine ⟨by omega, by omega, fin' _ ?_ ?_ ?_⟩
        · simp [num, tx]
        · simp [num, tx, qb, h92]
        · simp [num, tx]
      by_cases h32 : c.toNat < 32
      · have hqb : qb c = [92, 117, 48, 48, hexs.getD (c.toNat / 16) 0, hexs.getD (c.toNat % 16) 0] := by unfold qb; rw [if_neg (by omega), if_neg (by omega)]
        have w1 : IntKind.u8.wrap ((c.toNat : Int) / 16) = ((c.toNat / 16 : Nat) : Int) := by rw [wrap_u8 (by omega) (by omega)]; omega
        have w2 : ((c.toNat : Int)).tmod 16 = ((c.toNat % 16 : Nat) : Int) := by rw [Int.tmod_eq_emod_of_nonneg (by omega)]; omega
        generalize ha : hexs.getD (c.toNat / 16) 0 = a at hqb
        generalize hb : hexs.getD (c.toNat % 16) 0 = b at hqb
        have f1 : ([48, 49, 50, 51, 52, 53, 54, 55, 56, 57, 97, 98, 99, 100, 101, 102] : List UInt8)[c.toNat / 16]?.getD 0 = a := by rw [← ha, List.getD_eq_getElem?_getD]; rfl
        have f2 : ([48, 49, 50, 51, 52, 53, 54, 55, 56, 57, 97, 98, 99, 100, 101, 102] : List UInt8)[c.toNat % 16]?.getD 0 = b := by rw [← hb, List.getD_eq_getElem?_getD]; rfl
        generalize hn1 : c.toNat / 16 = n1 at w1 f1 ha
        generalize hn2 : c.toNat % 16 = n2 at w2 f2 hb
        have g1 : n1 < 16 := by omega
        have g2 : n2 < 16 := by omega
        have f3 : ([48, 49, 50, 51, 52, 53, 54, 55, 56, 57, 97, 98, 99, 100, 101, 102] : List UInt8)[n1]'g1 = a := by rw [← f1, List.getElem?_eq_getElem g1]; rfl
        have f4 : ([48, 49, 50, 51, 52, 53, 54, 55, 56, 57, 97, 98, 99, 100, 101, 102] : List UInt8)[n2]'g2 = b := by rw [← f2, List.getElem?_eq_getElem g2]; rfl
        simp [num, tx, bs_size, byteAt_bs, bs_extract, bs_append, bs_mk, hti, h1, hc, e1, e2, e3, e4, h34, h92, h32, wi2, hr2, w1, w2, f3, f4, g1, g2, RV.isU8, bytesOf, RV.byte]
        refine ⟨?_, ?_, ?_, fin' _ ?_ ?_ ?_⟩
        · omega
        · omega
        · omega
        · simp [num, tx]
        · simp [num, tx, hqb]
        · simp [num, tx]
      by_cases h126 : 126 < c.toNat
      · have hqb : qb c = [92, 117, 48, 48, hexs.getD (c.toNat / 16) 0, hexs.getD (c.toNat % 16) 0] := by unfold qb; rw [if_neg (by omega), if_neg (by omega)]
        have w1 : IntKind.u8.wrap ((c.toNat : Int) / 16) = ((c.toNat / 16 : Nat) : Int) := by rw [wrap_u8 (by omega) (by omega)]; omega
        have w2 : ((c.toNat : Int)).tmod 16 = ((c.toNat % 16 : Nat) : Int) := by rw [Int.tmod_eq_emod_of_nonneg (by omega)]; omega
        generalize ha : hexs.getD (c.toNat / 16) 0 = a at hqb
        generalize hb : hexs.getD (c.toNat % 16) 0 = b at hqb
        have f1 : ([48, 49, 50, 51, 52, 53, 54, 55, 56, 57, 97, 98, 99, 100, 101, 102] : List UInt8)[c.toNat / 16]?.getD 0 = a := by rw [← ha, List.getD_eq_getElem?_getD]; rfl
        have f2 : ([48, 49, 50, 51, 52, 53, 54, 55, 56, 57, 97, 98, 99, 100, 101, 102] : List UInt8)[c.toNat % 16]?.getD 0 = b := by rw [← hb, List.getD_eq_getElem?_getD]; rfl
        generalize hn1 : c.toNat / 16 = n1 at w1 f1 ha
        generalize hn2 : c.toNat % 16 = n2 at w2 f2 hb
        have g1 : n1 < 16 := by omega
        have g2 : n2 < 16 := by omega
        have f3 : ([48, 49, 50, 51, 52, 53, 54, 55, 56, 57, 97, 98, 99, 100, 101, 102] : List UInt8)[n1]'g1 = a := by rw [← f1, List.getElem?_eq_getElem g1]; rfl
        have f4 : ([48, 49, 50, 51, 52, 53, 54, 55, 56, 57, 97, 98, 99, 100, 101, 102] : List UInt8)[n2]'g2 = b := by rw [← f2, List.getElem?_eq_getElem g2]; rfl
        simp [num, tx, bs_size, byteAt_bs, bs_extract, bs_append, bs_mk, hti, h1, hc, e1, e2, e3, e4, h34, h92, h32, h126, wi2, hr2, w1, w2, f3, f4, g1, g2, RV.isU8, bytesOf, RV.byte]
        refine ⟨?_, ?_, ?_, fin' _ ?_ ?_ ?_⟩
        · omega
        · omega
        · omega
        · simp [num, tx]
        · simp [num, tx, hqb]
        · simp [num, tx]
      · have h32' : 32 ≤ c.toNat := by omega
        have h126' : c.toNat ≤ 126 := by omega
        simp [num, tx, bs_size, byteAt_bs, bs_extract, bs_append, bs_mk, hti, h1, hc, e1, e2, e3, e4, h34, h92, h32, h126, wi2, hr2]
        refine ⟨by omega, by omega, fin' _ ?_ ?_ ?_⟩
        · simp [num, tx]
        · simp [num, tx, qb, h34, h92, h32', h126']
        · simp [num, tx]
    · have e : i = t.length := by omega
      subst e
      have hq := qbody_len t
      simp [num, tx, bs_size, bs_mk, bs_append, lquote]
      omega
theorem i_quote (t : Tx) (ht : t.length ≤ 1048576) : CallOK Tryz.prog 103 [.val (tx t)] (.ret (.val (tx (lquote t))) []) [] := by
  refine call_val mixed ok103 rfl (fun _ => rfl) ?_
  unfold ir103
  rw [evalC_intro]
  simp [initSt, avPVs, avPV, avBoxesL, avBoxes, tx, num, elems, bs_size]
  refine loop_EC (X := Nat) (fun i => ⟨envOf [(0, .val (tx t)), (3, .own 6), (8, .val (num t.length)), (9, .val (num i))], memOf [(6, .row 5 1 ((34 :: qbody (t.take i)).map rvb))]⟩) (fun i => i ≤ t.length) (fun i => t.length - i) 0 (Le.mk _ _ ?_ ?_) ?_ ?_
  · simp [upd, tx, num, PV.kill]
  · simp [upd, qbody, rvb]
  · simp
  · intro i hi
    simp [num, tx]
    refine iteP_intro (fun h1 => ?_) (fun h1 => ?_)
    · have hq := qbody_len (t.take i)
      have hti : (t.take i).length = i := by simp; omega
      have hsucc := qbody_take t i h1
      obtain ⟨c, hc⟩ : ∃ c, t[i] = c := ⟨_, rfl⟩
      rw [hc] at hsucc
      have e1 : ((c.toNat : Int) = 34) ↔ c.toNat = 34 := by omega
      have e2 : ((c.toNat : Int) = 92) ↔ c.toNat = 92 := by omega
      have e3 : ((c.toNat : Int) < 32) ↔ c.toNat < 32 := by omega
      have e4 : ((126 : Int) < c.toNat) ↔ 126 < c.toNat := by omega
      have h256 : c.toNat < 256 := c.toNat_lt
      have wi2 : IntKind.i64.wrap ((i : Int) + 1) = (i : Int) + 1 := wrap_i64 (by omega) (by omega)
      have wc : IntKind.i64.wrap (c.toNat : Int) = (c.toNat : Int) := wrap_i64 (by omega) (by omega)
      have fin' : ∀ st' : St, st'.env 0 = .val (tx t) → st'.env 3 = .own 6 → st'.env 8 = .val (num t.length) → st'.env 9 = .val (num ((i : Int) + 1)) → st'.mem 6 = .row 5 1 ((34 :: qbody (t.take i)).map rvb ++ (qb c).map rvb) → ∃ x', x' ≤ t.length ∧ t.length - x' < t.length - i ∧ Le st' ⟨envOf [(0, .val (tx t)), (3, .own 6), (8, .val (num t.length)), (9, .val (num x'))], memOf [(6, .row 5 1 ((34 :: qbody (t.take x')).map rvb))]⟩ := fun st' q0 q3 q8 q9 m6 => by
        refine ⟨i + 1, h1, by omega, Le.mk _ _ ?_ ?_⟩
        · simp [q0, q3, q8, q9, num]
        · simp [m6, hsucc, rvb]
      by_cases h34 : c.toNat = 34
      · simp [num, tx, rvb, elems, bs_size, byteAt_bs, h1, hc, e1, e2, e3, e4, h34, wi2]
        refine ⟨by omega, by omega, fin' _ ?_ ?_ ?_ ?_ ?_⟩
        · simp [num, tx]
        · simp [num, tx]
        · simp [num, tx]
        · simp [num, tx]
        · simp [num, tx, rvb, qb, h34]
      by_cases h92 : c.toNat = 92
      · simp [num, tx, rvb, elems, bs_size, byteAt_bs, h1, hc, e1, e2, e3, e4, h92, wi2]
        refine ⟨by omega, by omega, fin' _ ?_ ?_ ?_ ?_ ?_⟩
        · simp [num, tx]
        · simp [num, tx]
        · simp [num, tx]
        · simp [num, tx]
        · simp [num, tx, rvb, qb, h92]
      simp [num, tx, rvb, elems, bs_size, byteAt_bs, h1, hc, e1, e2, e3, e4, h34, h92, wi2, wc]
      refine callS_val rfl rfl (.inl rfl) (i_within c.toNat 32 126) ?_
      by_cases h32 : 32 ≤ c.toNat ∧ c.toNat ≤ 126
      · have h32' : (32 : Int) ≤ c.toNat ∧ (c.toNat : Int) ≤ 126 := by omega
        rw [decide_eq_true h32']
        simp [num, tx, rvb, elems, bs_size, byteAt_bs, h1, hc, e1, e2, e3, e4, h34, h92, wi2]
        refine ⟨by omega, by omega, fin' _ ?_ ?_ ?_ ?_ ?_⟩
        · simp [num, tx]
        · simp [num, tx]
        · simp [num, tx]
        · simp [num, tx]
        · simp [num, tx, rvb, qb, h34, h92, h32]
      · have h32' : ¬ ((32 : Int) ≤ c.toNat ∧ (c.toNat : Int) ≤ 126) := by omega
        rw [decide_eq_false h32']
        have hqb : qb c = [92, 117, 48, 48, hexs.getD (c.toNat / 16) 0, hexs.getD (c.toNat % 16) 0] := by unfold qb; rw [if_neg (by omega), if_neg h32]
        have w1 : IntKind.u8.wrap ((c.toNat : Int) / 16) = ((c.toNat / 16 : Nat) : Int) := by rw [wrap_u8 (by omega) (by omega)]; omega
        have w2 : ((c.toNat : Int)).tmod 16 = ((c.toNat % 16 : Nat) : Int) := by rw [Int.tmod_eq_emod_of_nonneg (by omega)]; omega
        generalize ha : hexs.getD (c.toNat / 16) 0 = a at hqb
        generalize hb : hexs.getD (c.toNat % 16) 0 = b at hqb
        have f1 : ([48, 49, 50, 51, 52, 53, 54, 55, 56, 57, 97, 98, 99, 100, 101, 102] : List UInt8)[c.toNat / 16]?.getD 0 = a := by rw [← ha, List.getD_eq_getElem?_getD]; rfl
        have f2 : ([48, 49, 50, 51, 52, 53, 54, 55, 56, 57, 97, 98, 99, 100, 101, 102] : List UInt8)[c.toNat % 16]?.getD 0 = b := by rw [← hb, List.getD_eq_getElem?_getD]; rfl
        generalize hn1 : c.toNat / 16 = n1 at w1 f1 ha
        generalize hn2 : c.toNat % 16 = n2 at w2 f2 hb
        have g1 : n1 < 16 := by omega
        have g2 : n2 < 16 := by omega
        have f3 : ([48, 49, 50, 51, 52, 53, 54, 55, 56, 57, 97, 98, 99, 100, 101, 102] : List UInt8)[n1]'g1 = a := by rw [← f1, List.getElem?_eq_getElem g1]; rfl
        have f4 : ([48, 49, 50, 51, 52, 53, 54, 55, 56, 57, 97, 98, 99, 100, 101, 102] : List UInt8)[n2]'g2 = b := by rw [← f2, List.getElem?_eq_getElem g2]; rfl
        simp [num, tx, rvb, elems, bs_size, byteAt_bs, h1, hc, e1, e2, e3, e4, bs_mk, h34, h92, wi2, w1, w2, f3, f4, g1, g2]
        refine ⟨by omega, by omega, by omega, by omega, fin' _ ?_ ?_ ?_ ?_ ?_⟩
        · simp [num, tx]
        · simp [num, tx]
        · simp [num, tx]
        · simp [num, tx]
        · simp [num, tx, rvb, hqb]
    · have e : i = t.length := by omega
      subst e
      have hq := qbody_len t
      simp [num, tx, elems]
      refine ⟨by omega, by omega, ?_⟩
      have e : rvb 34 :: ((qbody t).map rvb ++ [RV.int .u8 34]) = (lquote t).map rvb := by simp [lquote, rvb]
      exact ⟨⟨rfl, fun x _ => rfl, rfl⟩, by rw [e, bytesOf_rvb]⟩
end
end Go.Proofs
end

/- The text of a value of JSON by the reference. -/
section
set_option maxRecDepth 100000
set_option linter.unusedVariables false
set_option linter.unusedSectionVars false
set_option linter.unusedSimpArgs false
namespace Go.Proofs
open Go.PW Go.KP
attribute [local simp] RV.cells RV.one PV.cells PV.solid PV.one vals? allVal mkAgg setAt RV.ofCells elems PV.killL
section
variable [GF]

def jbox (k n : Int) (t : Tx) (ns : List Tx) (is : List LJson) : MObj := .box [.val (num k), .val (num n), .val (tx t), .val (.list 1 (ns.map tx)), .val (.list 5 (is.map rvJson))]
def jpart (k : Int) (ns : List Tx) (x : LJson) (i : Nat) : Tx := if k = 6 then lquote (ns.getD i []) ++ 58 :: jtext x else jtext x
theorem txt_s49 {K : Kx (PExit → St → Prop)} (k n : Int) (t : Tx) (ns : List Tx) (is : List LJson) (i : Nat) (q : Tx) (h1 : i < is.length) (hq : q.length ≤ 70368752566272) (hl : (jtext is[i]).length ≤ 70368752566272)
    (hC : CallOK Tryz.prog 36 [.val (rvJson is[i])] (.ret (.val (tx (jtext is[i]))) []) [])
    (hn : ∀ st' : St, st'.env 1 = .ptr 1 0 → st'.env 3 = .val (tx (q ++ jtext is[i])) → st'.env 4 = .val (num i) → st'.mem 1 = jbox k n t ns is → K.k .normal st')
    (st : St) (e1 : st.env 1 = .ptr 1 0) (e3 : st.env 3 = .val (tx q)) (e4 : st.env 4 = .val (num i)) (m1 : st.mem 1 = jbox k n t ns is) : EC Tryz.prog ir36_s49 st (K := K) := by
  obtain ⟨⟨k', n', t', ns', is'⟩, hx⟩ : ∃ x, is[i] = x := ⟨_, rfl⟩
  rw [hx] at hl hC hn
  rw [rvJson_mk] at hC
  obtain ⟨r, hr⟩ : ∃ r, jtext (.mk k' n' t' ns' is') = r := ⟨_, rfl⟩
  rw [hr] at hl hC hn
  unfold ir36_s49
  simp [e1, e3, e4, m1, jbox, num, tx, h1, hx, rvJson_mk]
  refine callS_val rfl rfl (.inl rfl) hC ?_
  simp [num, tx, bs_size, bs_append]
  refine ⟨by omega, hn _ ?_ ?_ ?_ ?_⟩
  all_goals simp [e1, e3, e4, m1, jbox, num, tx]

theorem txt_s37 {K : Kx (PExit → St → Prop)} (k n : Int) (t : Tx) (ns : List Tx) (is : List LJson) (i : Nat) (q : Tx) (h1 : i < is.length) (hq : q.length ≤ 70368744177664) (hl : (jtext is[i]).length ≤ 70368744177664)
    (hk : k = 6 → ns.length = is.length ∧ ∀ s ∈ ns, s.length ≤ 1048576)
    (hC : CallOK Tryz.prog 36 [.val (rvJson is[i])] (.ret (.val (tx (jtext is[i]))) []) [])
    (hn : ∀ st' : St, st'.env 1 = .ptr 1 0 → st'.env 3 = .val (tx (q ++ jpart k ns is[i] i)) → st'.env 4 = .val (num i) → st'.mem 1 = jbox k n t ns is → K.k .normal st')
    (st : St) (e1 : st.env 1 = .ptr 1 0) (e3 : st.env 3 = .val (tx q)) (e4 : st.env 4 = .val (num i)) (m1 : st.mem 1 = jbox k n t ns is) : EC Tryz.prog ir36_s37 st (K := K) := by
  unfold ir36_s37
  by_cases h6 : k = 6
  · obtain ⟨hnl, hns⟩ := hk h6
    have h2 : i < ns.length := by omega
    have hqn := lquote_len ns[i]
    have hsl := hns _ (List.getElem_mem h2)
    have hQ := c_l02Quote ns[i] hsl
    simp [e1, e3, e4, m1, jbox, num, tx, h6, h2]
    refine callS_val rfl rfl (.inl rfl) hQ ?_
    simp [num, tx, bs_size, bs_append, bs_mk]
    refine ⟨by omega, by omega, ?_⟩
    refine txt_s49 6 n t ns is i (q ++ (lquote ns[i] ++ [58])) h1 (by simp; omega) (by omega) hC (fun st' q1 q3 q4 m1 => hn st' q1 ?_ q4 (by rw [h6]; exact m1)) _ ?_ ?_ ?_ ?_
    · rw [q3]; simp [jpart, h6, List.getD_eq_getElem?_getD, h2]
    all_goals simp [e1, e3, e4, m1, jbox, num, tx, h6]
  · simp [e1, e3, e4, m1, jbox, num, tx, h6]
    refine txt_s49 k n t ns is i q h1 (by omega) (by omega) hC (fun st' q1 q3 q4 m1 => hn st' q1 (by rw [q3]; simp [jpart, h6]) q4 m1) _ ?_ ?_ ?_ ?_
    all_goals simp [e1, e3, e4, m1, jbox, num, tx]

theorem jparts_getD (k : Int) (ns : List Tx) (is : List LJson) (hk : k = 6 → ns.length = is.length) (i : Nat) (h : i < is.length) : (jparts k ns (is.map jtext)).length = is.length ∧ ∀ h', (jparts k ns (is.map jtext))[i]'h' = jpart k ns is[i] i := by
  refine ⟨by rw [jparts_len, List.length_map], fun h' => ?_⟩
  by_cases h6 : k = 6
  · subst h6
    have hn := hk rfl
    rw [jparts_six ns _ (by rw [List.length_map]; exact hn) i (by omega) (by rw [List.length_map]; exact h)]
    simp [jpart, List.getD_eq_getElem?_getD, show i < ns.length by omega]
  · have e := jparts_ne h6 ns (is.map jtext)
    simp only [e, jpart, if_neg h6, List.getElem_map]

theorem c_l02Text : ∀ (d : Nat) (j : LJson), d ≤ 4 → jOK d j → CallOK Tryz.prog 36 [.val (rvJson j)] (.ret (.val (tx (jtext j))) []) []
  | 0, _, _, h => h.elim
  | d + 1, .mk k n t ns is, hd, h => by
    have hL := jtext_len (d + 1) (.mk k n t ns is) h
    refine call_val mixed ok36 rfl (fun _ => rfl) ?_
    unfold ir36
    rw [evalC_intro]
    rw [rvJson_mk]
    rcases h with ⟨rfl, h1, h2⟩ | ⟨rfl, h1⟩ | ⟨hk, hl, hs⟩
    · simp [initSt, avPVs, avPV, avBoxesL, avBoxes, tx, num]
      have hD := c_l00Digits_nat n.toNat (by omega)
      rw [show ((n.toNat : Nat) : Int) = n by omega] at hD
      refine callS_val rfl rfl (.inl rfl) hD ?_
      simp [jtext_mk, tx]
    · simp [initSt, avPVs, avPV, avBoxesL, avBoxes, tx, num]
      refine callS_val rfl rfl (.inl rfl) (c_l02Quote t h1) ?_
      simp [jtext_mk, tx]
    · have hk' : k = 5 ∨ k = 6 := hk.elim .inl fun h => .inr h.1
      have n1 : ¬ k = 1 := by omega
      have n2 : ¬ k = 2 := by omega
      have n3 : ¬ k = 3 := by omega
      have n4 : ¬ k = 4 := by omega
      have h6 : k = 6 → ns.length = is.length ∧ ∀ s ∈ ns, s.length ≤ 1048576 := fun h => hk.elim (fun h5 => by omega) fun h => h.2
      have hacc := jacc_len (d := d) (k := k) (ns := ns) (is := is) (by omega) hk hl hs
      obtain ⟨r, hr⟩ : ∃ r, jtext (.mk k n t ns is) = r := ⟨_, rfl⟩
      rw [hr]
      simp [initSt, avPVs, avPV, avBoxesL, avBoxes, tx, num, n1, n2, n3, n4]
      refine loop_EC (X := Nat) (fun i => ⟨envOf [(1, .ptr 1 0), (3, .val (tx (ljoin [44] ((jparts k ns (is.map jtext)).take i)))), (4, .val (num i))], memOf [(1, jbox k n t ns is)]⟩) (fun i => i ≤ is.length) (fun i => is.length - i) 0 (Le.mk _ _ ?_ ?_) ?_ ?_
      · simp [upd, num, tx, PV.kill, ljoin, bs_mk]
      · simp [tx, num, jbox]
      · simp
      · intro i hi
        have hai := hacc i
        simp [num, tx, jbox]
        refine iteP_intro (fun h1 => ?_) (fun h1 => ?_)
        · obtain ⟨g1, g2⟩ := jparts_getD k ns is (fun h => (h6 h).1) i h1
          have hst := ljoin_take [44] (jparts k ns (is.map jtext)) i (by rw [g1]; exact h1)
          rw [g2] at hst
          have wi : IntKind.i64.wrap ((i : Int) + 1) = ((i + 1 : Nat) : Int) := by rw [wrap_i64 (by omega) (by omega)]; omega
          have hC := c_l02Text d is[i] (by omega) (hs _ (List.getElem_mem h1))
          have hil := jitem_len (by omega) hs i h1
          generalize hA : ljoin [44] ((jparts k ns (is.map jtext)).take i) = A at *
          simp [num, tx]
          refine iteP_intro (fun h0 => ?_) (fun h0 => ?_)
          · rw [if_neg (by omega)] at hst
            simp [num, tx, bs_size, bs_mk, bs_append]
            refine ⟨by omega, ?_⟩
            refine txt_s37 k n t ns is i (A ++ [44]) h1 (by simp; omega) (by omega) h6 hC (fun st' q1 q3 q4 m1 => ?_) _ ?_ ?_ ?_ ?_
            · simp [q1, q3, q4, num]
              refine LoopNext.mk (i + 1) h1 (by omega) (Le.mk _ _ ?_ ?_)
              · simp [num, q1, q3, q4, wi, hst]
              · simp [m1]
            all_goals simp [num, tx, jbox]
          · rw [if_pos (by omega)] at hst
            simp [num, tx]
            refine txt_s37 k n t ns is i A h1 (by omega) (by omega) h6 hC (fun st' q1 q3 q4 m1 => ?_) _ ?_ ?_ ?_ ?_
            · simp [q1, q3, q4, num]
              refine LoopNext.mk (i + 1) h1 (by omega) (Le.mk _ _ ?_ ?_)
              · simp [num, q1, q3, q4, wi, hst]
              · simp [m1]
            all_goals simp [num, tx, jbox]
        · have e : i = is.length := by omega
          subst e
          have ht : (jparts k ns (is.map jtext)).take is.length = jparts k ns (is.map jtext) := List.take_of_length_le (by rw [jparts_len, List.length_map]; omega)
          rw [ht] at hai
          rw [jtext_mk, if_neg n3, if_neg n4] at hr
          rcases hk' with rfl | rfl
          · rw [if_pos rfl] at hr
            rw [jparts_ne (by decide)] at hai ht
            simp [num, tx, jbox, bs_mk, bs_append, bs_size]
            try rw [jparts_ne (by decide)]
            rw [List.take_of_length_le (by rw [List.length_map]; omega)]
            refine ⟨by omega, by omega, by rw [← hr]⟩
          · rw [if_neg (by decide)] at hr
            simp [num, tx, jbox, bs_mk, bs_append, bs_size]
            rw [ht]
            refine ⟨by omega, by omega, by rw [← hr]⟩
end
end Go.Proofs
end

/- The text of a value of JSON by the program. -/
section
set_option maxRecDepth 100000
set_option linter.unusedVariables false
set_option linter.unusedSectionVars false
set_option linter.unusedSimpArgs false
namespace Go.Proofs
open Go.PW Go.KP
attribute [local simp] RV.cells RV.one PV.cells PV.solid PV.one vals? allVal mkAgg setAt RV.ofCells elems PV.killL
section
variable [GH]

structure XS (st : St) (k n : Int) (t : Tx) (ns : List Tx) (is : List LJson) (i : Nat) : Prop where
  e1 : st.env 1 = .ptr 1 0
  e3 : st.env 3 = .own 30
  e32 : st.env 32 = .val (.list 5 (is.map rvJson))
  e33 : st.env 33 = .val (num is.length)
  e34 : st.env 34 = .val (num i)
  m1 : st.mem 1 = jbox k n t ns is
theorem txi_s53 {K : Kx (PExit → St → Prop)} (k n : Int) (t : Tx) (ns : List Tx) (is : List LJson) (i : Nat) (p : Tx) (L : List Tx) (hL : L.length ≤ 16)
    (hn : ∀ st' : St, XS st' k n t ns is i → st'.mem 30 = .row 9 1 (L.map tx ++ [tx p]) → K.k .normal st')
    (st : St) (h : XS st k n t ns is i) (e6 : st.env 6 = .val (tx p)) (m30 : st.mem 30 = .row 9 1 (L.map tx)) : EC Tryz.prog ir60_s53 st (K := K) := by
  obtain ⟨e1, e3, e32, e33, e34, m1⟩ := h
  unfold ir60_s53
  simp [e1, e3, e6, e32, e33, e34, m1, m30, num, tx, elems, allVal, RV.one]
  refine ⟨by omega, by omega, hn _ ⟨?_, ?_, ?_, ?_, ?_, ?_⟩ ?_⟩
  all_goals simp [e1, e3, e6, e32, e33, e34, m1, m30, num, tx, jbox, MObj.kill]
theorem txi_s41 {K : Kx (PExit → St → Prop)} (k n : Int) (t : Tx) (ns : List Tx) (is : List LJson) (i : Nat) (L : List Tx) (hL : L.length ≤ 16) (h1 : i < is.length)
    (hl : (jtext is[i]).length ≤ 70368744177664)
    (hk : k = 6 → ns.length = is.length ∧ ∀ s ∈ ns, s.length ≤ 1048576)
    (hn : ∀ st' : St, XS st' k n t ns is i → st'.mem 30 = .row 9 1 (L.map tx ++ [tx (jpart k ns is[i] i)]) → K.k .normal st')
    (st : St) (h : XS st k n t ns is i) (e4 : st.env 4 = .val (num i)) (e6 : st.env 6 = .val (tx (jtext is[i]))) (m30 : st.mem 30 = .row 9 1 (L.map tx)) : EC Tryz.prog ir60_s41 st (K := K) := by
  unfold ir60_s41
  have hc := h
  obtain ⟨e1, e3, e32, e33, e34, m1⟩ := h
  by_cases h6 : k = 6
  · obtain ⟨hnl, hns⟩ := hk h6
    have h2 : i < ns.length := by omega
    have hqn := lquote_len ns[i]
    have hsl := hns _ (List.getElem_mem h2)
    have hQ := i_quote ns[i] hsl
    simp [e1, e3, e4, e6, m1, jbox, num, tx, h6, h2]
    refine callS_val rfl rfl (.inl rfl) hQ ?_
    simp [num, tx, e6, bs_size, bs_append, bs_mk]
    refine ⟨by omega, by omega, ?_⟩
    refine txi_s53 k n t ns is i (lquote ns[i] ++ 58 :: jtext is[i]) L hL (fun st' q m => hn st' q ?_) _ ⟨?_, ?_, ?_, ?_, ?_, ?_⟩ ?_ ?_
    · rw [m]; simp [jpart, h6, List.getD_eq_getElem?_getD, h2]
    all_goals simp [e1, e3, e4, e6, e32, e33, e34, m1, m30, jbox, num, tx, h6]
  · simp [e1, e3, e4, e6, m1, jbox, num, tx, h6]
    refine txi_s53 k n t ns is i (jtext is[i]) L hL (fun st' q m => hn st' q (by rw [m]; simp [jpart, h6])) _ ⟨?_, ?_, ?_, ?_, ?_, ?_⟩ ?_ ?_
    all_goals simp [e1, e3, e4, e6, e32, e33, e34, m1, m30, jbox, num, tx]

theorem i_jtext : ∀ (d : Nat) (j : LJson), d ≤ 4 → jOK d j → CallOK Tryz.prog 60 [.val (rvJson j)] (.ret (.val (tx (jtext j))) []) []
  | 0, _, _, h => h.elim
  | d + 1, .mk k n t ns is, hd, h => by
    refine call_val mixed ok60 rfl (fun _ => rfl) ?_
    unfold ir60
    rw [evalC_intro]
    rw [rvJson_mk]
    rcases h with ⟨rfl, h1, h2⟩ | ⟨rfl, h1⟩ | ⟨hk, hl, hs⟩
    · simp [initSt, avPVs, avPV, avBoxesL, avBoxes, tx, num]
      refine callS_val rfl rfl (.inl rfl) (i_decimal n (by omega) (by omega)) ?_
      simp [jtext_mk, tx, ldec, show ¬ n < 0 by omega]
    · simp [initSt, avPVs, avPV, avBoxesL, avBoxes, tx, num]
      refine callS_val rfl rfl (.inl rfl) (i_quote t h1) ?_
      simp [jtext_mk, tx]
    · have hk' : k = 5 ∨ k = 6 := hk.elim .inl fun h => .inr h.1
      have n1 : ¬ k = 1 := by omega
      have n2 : ¬ k = 2 := by omega
      have n3 : ¬ k = 3 := by omega
      have n4 : ¬ k = 4 := by omega
      have h6 : k = 6 → ns.length = is.length ∧ ∀ s ∈ ns, s.length ≤ 1048576 := fun h => hk.elim (fun h5 => by omega) fun h => h.2
      have hacc := jacc_len (d := d) (k := k) (ns := ns) (is := is) (by omega) hk hl hs is.length
      have hpl : (jparts k ns (is.map jtext)).length = is.length := by rw [jparts_len, List.length_map]
      rw [List.take_of_length_le (by omega)] at hacc
      obtain ⟨r, hr⟩ : ∃ r, jtext (.mk k n t ns is) = r := ⟨_, rfl⟩
      rw [hr]
      obtain ⟨ps, hps⟩ : ∃ ps, jparts k ns (is.map jtext) = ps := ⟨_, rfl⟩
      have hget := jparts_getD k ns is fun h => (h6 h).1
      rw [hps] at hacc hpl hget
      rcases hk' with rfl | rfl
      · simp [initSt, avPVs, avPV, avBoxesL, avBoxes, tx, num, n1, n2, n3, n4]
        refine loop_EC (X := Nat) (fun i => ⟨envOf [(1, .ptr 1 0), (3, .own 30), (32, .val (.list 5 (is.map rvJson))), (33, .val (num is.length)), (34, .val (num i))], memOf [(1, jbox 5 n t ns is), (30, .row 9 1 ((ps.take i).map tx))]⟩) (fun i => i ≤ is.length) (fun i => is.length - i) 0 (Le.mk _ _ ?_ ?_) ?_ ?_
        · simp [upd, num, tx, PV.kill]
        · simp [tx, num, jbox, MObj.kill]
        · simp
        · intro i hi
          simp [num, tx]
          refine iteP_intro (fun h1 => ?_) (fun h1 => ?_)
          · obtain ⟨g1, g2⟩ := hget i h1
            have hst : (ps.take (i + 1)).map tx = (ps.take i).map tx ++ [tx (jpart 5 ns is[i] i)] := by
              rw [List.take_add_one, List.getElem?_eq_getElem (by omega), g2, List.map_append]; rfl
            have wi : IntKind.i64.wrap ((i : Int) + 1) = ((i + 1 : Nat) : Int) := by rw [wrap_i64 (by omega) (by omega)]; omega
            have hC := i_jtext d is[i] (by omega) (hs _ (List.getElem_mem h1))
            have hil := jitem_len (by omega) hs i h1
            obtain ⟨⟨k', n', t', ns', is'⟩, hx⟩ : ∃ x, is[i] = x := ⟨_, rfl⟩
            have hC' := hC
            rw [hx, rvJson_mk] at hC'
            simp [num, tx, h1, hx, rvJson_mk]
            refine callS_val rfl rfl (.inl rfl) hC' ?_
            simp [num, tx]
            refine txi_s41 5 n t ns is i (ps.take i) (by simp; omega) h1 (by omega) h6 (fun st' q m => ?_) _ ⟨?_, ?_, ?_, ?_, ?_, ?_⟩ ?_ ?_ ?_
            · obtain ⟨q1, q3, q32, q33, q34, m1⟩ := q
              simp [q1, q3, q32, q33, q34, num]
              refine LoopNext.mk (i + 1) h1 (by omega) (Le.mk _ _ ?_ ?_)
              · simp [num, q1, q3, q32, q33, q34, wi]
              · rw [hst]; simp [m1, m]
            all_goals simp [num, tx, jbox, hx, MObj.kill]
          · have e : i = is.length := by omega
            subst e
            have ht : ps.take is.length = ps := List.take_of_length_le (by omega)
            rw [jtext_mk, if_neg n3, if_neg n4, if_pos rfl] at hr
            simp [num, tx, jbox]
            refine callS_val (by simp [avsOf, avOf]; exact ⟨List.take_of_length_le (by simp; omega), rfl⟩) rfl (.inr rfl) (i_Join ps [44] (by omega) (by omega)) ?_
            have h5 : is.map jtext = ps := by rw [← hps, jparts_ne (by decide)]
            rw [h5] at hr
            simp [num, tx, jbox, bs_mk, bs_append, bs_size]
            refine ⟨by omega, by omega, by rw [← hr]⟩
      · simp [initSt, avPVs, avPV, avBoxesL, avBoxes, tx, num, n1, n2, n3, n4]
        refine loop_EC (X := Nat) (fun i => ⟨envOf [(1, .ptr 1 0), (3, .own 30), (32, .val (.list 5 (is.map rvJson))), (33, .val (num is.length)), (34, .val (num i))], memOf [(1, jbox 6 n t ns is), (30, .row 9 1 ((ps.take i).map tx))]⟩) (fun i => i ≤ is.length) (fun i => is.length - i) 0 (Le.mk _ _ ?_ ?_) ?_ ?_
        · simp [upd, num, tx, PV.kill]
        · simp [tx, num, jbox, MObj.kill]
        · simp
        · intro i hi
          simp [num, tx]
          refine iteP_intro (fun h1 => ?_) (fun h1 => ?_)
          · obtain ⟨g1, g2⟩ := hget i h1
            have hst : (ps.take (i + 1)).map tx = (ps.take i).map tx ++ [tx (jpart 6 ns is[i] i)] := by
              rw [List.take_add_one, List.getElem?_eq_getElem (by omega), g2, List.map_append]; rfl
            have wi : IntKind.i64.wrap ((i : Int) + 1) = ((i + 1 : Nat) : Int) := by rw [wrap_i64 (by omega) (by omega)]; omega
            have hC := i_jtext d is[i] (by omega) (hs _ (List.getElem_mem h1))
            have hil := jitem_len (by omega) hs i h1
            obtain ⟨⟨k', n', t', ns', is'⟩, hx⟩ : ∃ x, is[i] = x := ⟨_, rfl⟩
            have hC' := hC
            rw [hx, rvJson_mk] at hC'
            simp [num, tx, h1, hx, rvJson_mk]
            refine callS_val rfl rfl (.inl rfl) hC' ?_
            simp [num, tx]
            refine txi_s41 6 n t ns is i (ps.take i) (by simp; omega) h1 (by omega) h6 (fun st' q m => ?_) _ ⟨?_, ?_, ?_, ?_, ?_, ?_⟩ ?_ ?_ ?_
            · obtain ⟨q1, q3, q32, q33, q34, m1⟩ := q
              simp [q1, q3, q32, q33, q34, num]
              refine LoopNext.mk (i + 1) h1 (by omega) (Le.mk _ _ ?_ ?_)
              · simp [num, q1, q3, q32, q33, q34, wi]
              · rw [hst]; simp [m1, m]
            all_goals simp [num, tx, jbox, hx, MObj.kill]
          · have e : i = is.length := by omega
            subst e
            have ht : ps.take is.length = ps := List.take_of_length_le (by omega)
            rw [jtext_mk, if_neg n3, if_neg n4, if_neg (by decide)] at hr
            simp [num, tx, jbox]
            refine callS_val (by simp [avsOf, avOf]; exact ⟨List.take_of_length_le (by simp; omega), rfl⟩) rfl (.inr rfl) (i_Join ps [44] (by omega) (by omega)) ?_
            rw [hps] at hr
            simp [num, tx, jbox, bs_mk, bs_append, bs_size]
            refine ⟨by omega, by omega, by rw [← hr]⟩
end
end Go.Proofs
end
