/- En: merged out of IRmm, KJs. -/
import Derived.Test.YtnopddgnkefljaaGreatDoorPWv
import Derived.Test.YtnopddgnkefljaaGreatDoorChecked
import Derived.KernelRfl
import Derived.Test.YtnopddgnkefljaaGreatDoorEl
import Derived.Test.YtnopddgnkefljaaGreatDoorCb
import Derived.Test.YtnopddgnkefljaaGreatDoorEe
import Derived.Test.YtnopddgnkefljaaGreatDoorCc
import Derived.Test.YtnopddgnkefljaaGreatDoorAc

/- Functions of the seat as data. MADE BY PROGRAM (print_ir.py). -/
section
set_option maxRecDepth 100000
namespace Go.Proofs
open Go.PW Go.PW.I

def ir56_from3 : PC := .seq (.draw [o 36 (.lit 9 1 [.k (.val (.str ⟨#[103, 114, 111, 117, 112]⟩)), .k (.val (.str ⟨#[109, 97, 120, 95, 97, 103, 101]⟩)), .k (.val (.str ⟨#[101, 110,
 100, 112, 111, 105, 110, 116, 115]⟩))]), o 37 (.faddr 0 (.t 1)), l 38 37, o 39 (.call 74 [.t 38]), o 40 (.faddr 1 (.t 1)), l 41 40, o 42 (.call 76 [.t 41]), o 43 (.load true 5 (.t
 3)), o 44 (.lit 40 5 [.t 39, .t 42, .t 43])] [o 45 (.build [.val (.int .i64 0), .val (.int .i64 0), .val (.str ⟨#[]⟩), .emp 1, .emp 5] [(0, 1, .k (.val (.int .i64 6))), (3, 1, .t
 36), (4, 1, .t 44)]), n (.store 5 (.t 2) (.t 45))]) (.ret)
/-- spec.l03Json -/
def ir56 : PC := .seq (.reg [o 1 (.box (.t 0)), o 2 (.alloc [.val (.int .i64 0), .val (.int .i64 0), .val (.str ⟨#[]⟩), .emp 1, .emp 5])]) (.seq (.reg [o 6 (.build [.val (.int .i64
 0), .val (.int .i64 0), .val (.str ⟨#[]⟩), .emp 1, .emp 5] [(0, 1, .k (.val (.int .i64 5)))]), o 3 (.alloc [.val (.int .i64 0), .val (.int .i64 0), .val (.str ⟨#[]⟩), .emp 1, .emp
 5]), n (.store 5 (.t 3) (.t 6))]) (.seq (.seq (.reg [o 4 (.mov (i 0))]) (.block 0 (.loop (.ghost (.seq (.seq (.reg [m 7 4, o 8 (.faddr 2 (.t 1)), l 9 8, o 10 (.len (.t 9)), o 11
 (.bin .lss (.t 7) (.t 10))]) (.cond (.t 11) (.skip) (.exit 0))) (.seq (.block 1 (.seq (.reg [o 14 (.faddr 2 (.t 1)), l 15 14, m 16 4, o 17 (.iaddr 3 (.t 15) (.t 16)), o 18 (.load
 true 3 (.t 17)), o 5 (.alloc [.val (.str ⟨#[]⟩), .val (.int .i64 0), .val (.int .i64 0)]), n (.store 3 (.t 5) (.t 18))]) (.draw [o 19 (.faddr 4 (.t 3)), l 20 19, o 21 (.lit 9 1 [.k
 (.val (.str ⟨#[117, 114, 108]⟩)), .k (.val (.str ⟨#[112, 114, 105, 111, 114, 105, 116, 121]⟩)), .k (.val (.str ⟨#[119, 101, 105, 103, 104, 116]⟩))]), o 22 (.faddr 0 (.t 5)), l 23
 22, o 24 (.call 74 [.t 23]), o 25 (.faddr 1 (.t 5)), l 26 25, o 27 (.call 76 [.t 26]), o 28 (.faddr 2 (.t 5)), l 29 28, o 30 (.call 76 [.t 29]), o 31 (.lit 40 5 [.t 24, .t 27, .t
 30]), o 32 (.build [.val (.int .i64 0), .val (.int .i64 0), .val (.str ⟨#[]⟩), .emp 1, .emp 5] [(0, 1, .k (.val (.int .i64 6))), (3, 1, .t 21), (4, 1, .t 31)]), o 33 (.lit 40 5 [.t
 32])] [o 34 (.app 40 5 80 (.t 20) (.t 33)), o 35 (.faddr 4 (.t 3)), n (.store 1 (.t 35) (.t 34))]))) (.reg [m 12 4, o 13 (.bin .add (.t 12) (i 1)), m 4 13]))))))) (ir56_from3)))
theorem ok56 : chkFn Tryz.prog 56 ir56 1 [.c 2 true 5] = true := by kernel_rfl
/-- spec.ReportToText -/
def ir24 : PC := .seq (.reg [o 1 (.box (.t 0)), o 2 (.mov (z #[])), o 3 (.mov (i 0))]) (.seq (.seq (.reg [o 4 (.load true 3 (.t 1)), o 5 (.call 55 [.t 4]), o 6 (.un .not (.t 5))])
 (.cond (.t 6) (.seq (.reg [o 2 (.mov (z #[])), o 3 (.mov (i 1))]) (.ret)) (.skip))) (.seq (.reg [o 7 (.load true 3 (.t 1)), o 8 (.call 56 [.t 7]), o 9 (.call 36 [.t 8]), m 2 9, o 3
 (.mov (i 0))]) (.ret)))
theorem ok24 : chkFn Tryz.prog 24 ir24 1 [.t 2, .t 3] = true := by kernel_rfl
def ir26_from4 : PC := .seq (.draw [o 36 (.lit 9 1 [.k (.val (.str ⟨#[103, 114, 111, 117, 112]⟩)), .k (.val (.str ⟨#[109, 97, 120, 95, 97, 103, 101]⟩)), .k (.val (.str ⟨#[101, 110,
 100, 112, 111, 105, 110, 116, 115]⟩))]), o 37 (.faddr 0 (.t 1)), l 38 37, o 39 (.call 58 [.t 38]), o 40 (.faddr 1 (.t 1)), l 41 40, o 42 (.call 59 [.t 41]), o 43 (.load true 5 (.t
 4)), o 44 (.lit 40 5 [.t 39, .t 42, .t 43])] [o 45 (.build [.val (.int .i64 0), .val (.int .i64 0), .val (.str ⟨#[]⟩), .emp 1, .emp 5] [(0, 1, .k (.val (.int .i64 6))), (3, 1, .t
 36), (4, 1, .t 44)]), o 46 (.call 60 [.t 45]), m 2 46, o 3 (.mov (i 0))]) (.ret)
/-- impl.ReportToText -/
def ir26 : PC := .seq (.reg [o 1 (.box (.t 0)), o 2 (.mov (z #[])), o 3 (.mov (i 0))]) (.seq (.seq (.reg [o 7 (.load true 3 (.t 1)), o 8 (.call 45 [.t 7]), o 9 (.un .not (.t 8))])
 (.cond (.t 9) (.seq (.reg [o 2 (.mov (z #[])), o 3 (.mov (i 1))]) (.ret)) (.skip))) (.seq (.reg [o 10 (.build [.val (.int .i64 0), .val (.int .i64 0), .val (.str ⟨#[]⟩), .emp 1,
 .emp 5] [(0, 1, .k (.val (.int .i64 5)))]), o 4 (.alloc [.val (.int .i64 0), .val (.int .i64 0), .val (.str ⟨#[]⟩), .emp 1, .emp 5]), n (.store 5 (.t 4) (.t 10))]) (.seq (.seq
 (.reg [o 11 (.faddr 2 (.t 1)), l 12 11, o 13 (.len (.t 12)), o 14 (.mov (i 0))]) (.block 0 (.loop (.ghost (.seq (.reg [o 15 (.bin .lss (.t 14) (.t 13))]) (.seq (.cond (.t 15)
 (.skip) (.exit 0)) (.seq (.block 1 (.seq (.reg [o 16 (.iaddr 3 (.t 12) (.t 14)), o 17 (.load true 3 (.t 16)), o 6 (.alloc [.val (.str ⟨#[]⟩), .val (.int .i64 0), .val (.int .i64
 0)]), n (.store 3 (.t 6) (.t 17))]) (.draw [o 18 (.faddr 4 (.t 4)), l 19 18, o 20 (.lit 9 1 [.k (.val (.str ⟨#[117, 114, 108]⟩)), .k (.val (.str ⟨#[112, 114, 105, 111, 114, 105,
 116, 121]⟩)), .k (.val (.str ⟨#[119, 101, 105, 103, 104, 116]⟩))]), o 21 (.faddr 0 (.t 6)), l 22 21, o 23 (.call 58 [.t 22]), o 24 (.faddr 1 (.t 6)), l 25 24, o 26 (.call 59 [.t
 25]), o 27 (.faddr 2 (.t 6)), l 28 27, o 29 (.call 59 [.t 28]), o 30 (.lit 40 5 [.t 23, .t 26, .t 29]), o 31 (.build [.val (.int .i64 0), .val (.int .i64 0), .val (.str ⟨#[]⟩),
 .emp 1, .emp 5] [(0, 1, .k (.val (.int .i64 6))), (3, 1, .t 20), (4, 1, .t 30)]), o 32 (.lit 40 5 [.t 31])] [o 33 (.app 40 5 80 (.t 19) (.t 32)), o 34 (.faddr 4 (.t 4)), n (.store
 1 (.t 34) (.t 33))]))) (.reg [o 35 (.bin .add (.t 14) (i 1)), m 14 35])))))))) (ir26_from4))))
theorem ok26 : chkFn Tryz.prog 26 ir26 1 [.t 2, .t 3] = true := by kernel_rfl
/-- laws.FnExactReportToText -/
def ir6 : PC := .seq (.reg [o 1 (.box (.t 0)), o 2 (.mov F)]) (.seq (.reg [o 3 (.mov (i 1048576))]) (.seq (.reg [o 9 (.load true 3 (.t 1)), m 10 3, o 11 (.call 23 [.t 9, .t 10]), m
 3 11]) (.seq (.seq (.reg [m 12 3, o 13 (.bin .lss (.t 12) (i 0))]) (.cond (.t 13) (.seq (.reg [o 2 (.mov T)]) (.ret)) (.skip))) (.seq (.reg [o 15 (.load true 3 (.t 1)), o 16 (.call
 25 [.t 15]), o 17 (.call 24 [.t 16]), m 14 17, o 18 (.ext 0 (.t 14)), o 19 (.ext 1 (.t 14)), m 4 18, m 5 19]) (.seq (.reg [o 20 (.load true 3 (.t 1)), o 21 (.call 25 [.t 20]), o 6
 (.alloc [.val (.str ⟨#[]⟩), .val (.int .i64 0), .emp 3]), n (.store 3 (.t 6) (.t 21))]) (.seq (.reg [o 23 (.load true 3 (.t 6)), o 24 (.call 26 [.t 23]), m 22 24, o 25 (.ext 0 (.t
 22)), o 26 (.ext 1 (.t 22)), m 7 25, m 8 26]) (.seq (.seq (.reg [m 27 7, m 28 4, o 29 (.bin .neq (.t 27) (.t 28)), m 30 29, g 31 30 false (.mov (.t 8)), g 32 30 false (.mov (.t
 5)), g 33 30 false (.bin .neq (.t 31) (.t 32)), o 34 (.pick (.t 30) T (.t 33))]) (.cond (.t 34) (.seq (.reg [o 2 (.mov F)]) (.ret)) (.skip))) (.seq (.seq (.draw [o 35 (.load true 3
 (.t 6)), o 36 (.load true 3 (.t 1)), o 37 (.call 25 [.t 36])] [o 38 (.call 27 [.t 35, .t 37]), o 39 (.un .not (.t 38))]) (.cond (.t 39) (.seq (.reg [o 2 (.mov F)]) (.ret))
 (.skip))) (.seq (.reg [o 2 (.mov T)]) (.ret))))))))))
theorem ok6 : chkFn Tryz.prog 6 ir6 1 [.t 2] = true := by kernel_rfl
end Go.Proofs
end

/- The header of a group by the reference and by the program; the law of ReportToText. -/
section
set_option maxRecDepth 100000
set_option linter.unusedVariables false
set_option linter.unusedSectionVars false
set_option linter.unusedSimpArgs false
namespace Go.Proofs
open Go.PW Go.KP
attribute [local simp] RV.cells RV.one PV.cells PV.solid PV.one vals? allVal mkAgg setAt RV.ofCells elems PV.killL
variable [GH]
def gbox (g : LGroup) : MObj := .box [.val (tx g.name), .val (num g.age), .val (.list 3 (g.targets.map rvTarget))]
def zbox : MObj := .box [.val (num 0), .val (num 0), .val (tx []), .emp 1, .emp 5]
def lbox (c : PV) : MObj := .box [.val (num 5), .val (num 0), .val (tx []), .emp 1, c]
def lboxF (l : List LJson) : MObj := .box [.val (num 5), .val (num 0), .val (tx []), .val (.list 1 []), .val (.list 5 (l.map rvJson))]
/-- The state of the loop that gathers the items; at its end all is data. -/
def RS (g : LGroup) (i : Nat) : St := if i < g.targets.length then ⟨envOf [(1, .ptr 1 0), (2, .ptr 2 0), (3, .ptr 3 0), (4, .val (num i))], memOf [(1, gbox g), (2, zbox), (3, lbox (ownOr 5 34 ((g.targets.take i).map lgItem))), (34, rowOr 40 5 rvJson ((g.targets.take i).map lgItem))]⟩
  else ⟨envOf [(1, .ptr 1 0), (2, .ptr 2 0), (3, .ptr 3 0), (4, .val (num i))], memOf [(1, gbox g), (2, .box [.val (num 0), .val (num 0), .val (tx []), .val (.list 1 []), .val (.list 5 [])]), (3, lboxF (g.targets.map lgItem))]⟩
theorem rs_fin (g : LGroup) (i : Nat) (l : List LJson) (x : LJson) : Le ⟨envOf [(1, .ptr 1 0), (2, .ptr 2 0), (3, .ptr 3 0), (4, .val (num i))], memOf [(1, gbox g), (2, zbox), (3, lbox (.own 34)), (34, .row 40 5 ((l ++ [x]).map rvJson))]⟩
    ⟨envOf [(1, .ptr 1 0), (2, .ptr 2 0), (3, .ptr 3 0), (4, .val (num i))], memOf [(1, gbox g), (2, .box [.val (num 0), .val (num 0), .val (tx []), .val (.list 1 []), .val (.list 5 [])]), (3, lboxF (l ++ [x]))]⟩ := by
  refine ((Le.freeze _ (fun _ => true)).trans (Le.plain _)).trans (Le.mk _ _ ?_ ?_)
  · simp [St.freeze, PV.frz, PV.pl]
  · simp [St.freeze, MObj.pl, gbox, zbox, lbox, lboxF, PV.frz, PV.frzL, PV.plL, PV.pl, frzOf]
theorem json_from3 (g : LGroup) (st : St) (e1 : st.env 1 = .ptr 1 0) (e2 : st.env 2 = .ptr 2 0) (e3 : st.env 3 = .ptr 3 0) (m1 : st.mem 1 = gbox g) (m2 : st.mem 2 = .box [.val (num 0), .val (num 0), .val (tx []), .val (.list 1 []), .val (.list 5 [])]) (m3 : st.mem 3 = lboxF (g.targets.map lgItem)) :
    EC Tryz.prog ir56_from3 st (K := ⟨RetP [.c 2 true 5] (.val (rvJson (lgJson g)))⟩) := by
  unfold ir56_from3
  simp [e1, e2, e3, m1, m2, m3, gbox, lboxF, tx, num, allVal, elems]
  refine callX_val rfl rfl (.inl rfl) (c_l03Word g.name) ?_
  simp [e1, e2, e3, m1, m2, m3, gbox, lboxF, tx, num, allVal]
  refine callX_val rfl rfl (.inl rfl) (c_l03Say g.age) ?_
  simp [e1, e2, e3, m1, m2, m3, gbox, lboxF, tx, num, allVal, elems, jt, jn, rvJson_mk, RV.one, PV.kill, PV.killL]
  refine resP_json (id := 2) (cs := [.val (num 6), .val (num 0), .val (tx []), .val (.list 1 (gNames.map tx)), .val (.list 5 [rvJson (jt g.name), rvJson (jn g.age), rvJson (lgList g)])]) ?_ ?_ ?_
  · simp [e2]
  · simp [tx, num, gNames, bs, jt, jn, rvJson_mk, lgList]
  · simp [PV.frzL, PV.frz, PV.plL, PV.pl, frzOf, lgJson, rvJson_mk, tx, num]
theorem c_l03Json (g : LGroup) (h1 : 1 ≤ g.targets.length) (h4 : g.targets.length ≤ 4) : CallOK Tryz.prog 56 [.val (rvGroup g)] (.ret (.val (rvJson (lgJson g))) []) [] := by
  refine call_val mixed ok56 rfl (fun _ => rfl) ?_
  unfold ir56
  rw [evalC_intro]
  simp [initSt, avPVs, avPV, avBoxesL, avBoxes, tx, num, rvGroup, elems, allVal, RV.one, bs_size, PV.kill, PV.killL]
  refine loop_EC (X := Nat) (RS g) (fun i => i ≤ g.targets.length) (fun i => g.targets.length - i) 0 ?_ ?_ ?_
  · rw [RS, if_pos (by omega)]
    refine Le.mkD _ _ ?_ ?_
    · simp [num, tx, PV.kill]
    · simp [num, tx, gbox, zbox, lbox, MObj.kill, bs]
  · simp
  · intro i hi
    by_cases hlt : i < g.targets.length
    · rw [RS, if_pos hlt]
      have hx : ∃ x, g.targets[i] = x := ⟨_, rfl⟩
      obtain ⟨x, hx⟩ := hx
      have e1 : (g.targets.map rvTarget)[i]?.getD .nilptr = rvTarget x := by simp [List.getElem?_eq_getElem hlt, hx]
      have wi : IntKind.i64.wrap ((i : Int) + 1) = ((i + 1 : Nat) : Int) := by rw [wrap_i64 (by omega) (by omega)]; omega
      have hst : (g.targets.take (i + 1)).map lgItem = (g.targets.take i).map lgItem ++ [lgItem x] := by
        rw [List.take_add_one, List.getElem?_eq_getElem hlt, hx, List.map_append]; rfl
      have hal : ((g.targets.take i).map lgItem).length ≤ 4 := by simp; omega
      have fin : ∀ st' : St, st'.env 1 = .ptr 1 0 → st'.env 2 = .ptr 2 0 → st'.env 3 = .ptr 3 0 → st'.env 4 = .val (num ((i + 1 : Nat) : Int)) → st'.mem 1 = gbox g → st'.mem 2 = zbox → st'.mem 3 = lbox (.own 34) → st'.mem 34 = .row 40 5 (((g.targets.take i).map lgItem ++ [lgItem x]).map rvJson) →
          ∃ x', x' ≤ g.targets.length ∧ g.targets.length - x' < g.targets.length - i ∧ Le st' (RS g x') := fun st' q1 q2 q3 q4 p1 p2 p3 p34 => by
        refine ⟨i + 1, by omega, by omega, ?_⟩
        by_cases hn : i + 1 < g.targets.length
        · rw [RS, if_pos hn, hst, ownOr_snoc, rowOr_snoc]
          refine Le.mk _ _ ?_ ?_
          · simp [q1, q2, q3, q4]
          · simp [p1, p2, p3, p34]
        · rw [RS, if_neg hn]
          have : g.targets.map lgItem = (g.targets.take i).map lgItem ++ [lgItem x] := by
            rw [← hst, List.take_of_length_le (by omega)]
          rw [this]
          refine Le.trans (Le.mk _ _ ?_ ?_) (rs_fin g (i + 1) ((g.targets.take i).map lgItem) (lgItem x))
          · simp [q1, q2, q3, q4]
          · simp [p1, p2, p3, p34]
      generalize (g.targets.take i).map lgItem = acc at *
      cases acc with
      | nil =>
        simp [num, tx, gbox, lbox, hlt, hx, rvTarget, elems, PV.kill, PV.killL, MObj.kill]
        refine callX_val rfl rfl (.inl rfl) (c_l03Word x.url) ?_
        simp [num, tx, gbox, lbox, rvTarget, elems]
        refine callX_val rfl rfl (.inl rfl) (c_l03Say x.prio) ?_
        simp [num, tx, gbox, lbox, rvTarget, elems]
        refine callX_val rfl rfl (.inl rfl) (c_l03Say x.weight) ?_
        simp [num, tx, gbox, lbox, rvTarget, elems, jt, jn, rvJson_mk, RV.one, PV.kill, PV.killL, MObj.kill, allVal]
        refine fin _ ?_ ?_ ?_ ?_ ?_ ?_ ?_ ?_
        · simp [num]
        · simp [num]
        · simp [num]
        · simp [num, wi]
        · simp [num, tx, gbox]
        · simp [num, tx, zbox, MObj.kill]
        · simp [num, tx, lbox]
        · simp [num, tx, lgItem, jt, jn, rvJson_mk, tNames, bs]
      | cons a acc =>
        simp [num, tx, gbox, lbox, hlt, hx, rvTarget, elems, PV.kill, PV.killL, MObj.kill]
        refine callX_val rfl rfl (.inl rfl) (c_l03Word x.url) ?_
        simp [num, tx, gbox, lbox, rvTarget, elems]
        refine callX_val rfl rfl (.inl rfl) (c_l03Say x.prio) ?_
        simp [num, tx, gbox, lbox, rvTarget, elems]
        refine callX_val rfl rfl (.inl rfl) (c_l03Say x.weight) ?_
        simp [num, tx, gbox, lbox, rvTarget, elems, jt, jn, rvJson_mk, RV.one, PV.kill, PV.killL, MObj.kill, allVal]
        simp at hal
        refine ⟨by omega, by omega, fin _ ?_ ?_ ?_ ?_ ?_ ?_ ?_ ?_⟩
        · simp [num]
        · simp [num]
        · simp [num]
        · simp [num, wi]
        · simp [num, tx, gbox]
        · simp [num, tx, zbox, MObj.kill]
        · simp [num, tx, lbox]
        · simp [num, tx, lgItem, jt, jn, rvJson_mk, tNames, bs]
    · rw [RS, if_neg hlt]
      have e : i = g.targets.length := by omega
      subst e
      simp [num, tx, gbox]
      refine json_from3 g _ ?_ ?_ ?_ ?_ ?_ ?_
      all_goals simp [gbox, tx, num]

def rtRes (g : LGroup) : PV := .tup [.val (tx (if lgroupOK g then jtext (lgJson g) else [])), .val (num (if lgroupOK g then 0 else 1))]
theorem c_ReportToText (g : LGroup) (hb : bdGroup 1048576 g) : CallOK Tryz.prog 24 [.val (rvGroup g)] (.ret (rtRes g) []) [] := by
  refine call_val mixed ok24 rfl (fun _ => rfl) ?_
  unfold ir24
  rw [evalC_intro]
  unfold rtRes
  simp [initSt, avPVs, avPV, avBoxesL, avBoxes, tx, num, rvGroup, allVal]
  refine callS_val rfl rfl (.inl rfl) (c_l03OK g hb) ?_
  cases h : lgroupOK g with
  | false => simp [tx, num, bs]
  | true =>
    obtain ⟨l1, l4⟩ := lgroupOK_len h
    simp [tx, num, allVal]
    refine callS_val rfl rfl (.inl rfl) (c_l03Json g l1 l4) ?_
    simp [tx, num, allVal]
    refine callS_val rfl rfl (.inl rfl) (c_l02Text 4 (lgJson g) (by omega) (lgJson_ok h hb.1)) ?_
    simp [tx, num]
/-- The same by the program. -/
def IS (g : LGroup) (i : Nat) : St := if i < g.targets.length then ⟨envOf [(1, .ptr 1 0), (4, .ptr 4 0), (12, .val (.list 3 (g.targets.map rvTarget))), (13, .val (num g.targets.length)), (14, .val (num i))], memOf [(1, gbox g), (4, lbox (ownOr 5 33 ((g.targets.take i).map lgItem))), (33, rowOr 40 5 rvJson ((g.targets.take i).map lgItem))]⟩
  else ⟨envOf [(1, .ptr 1 0), (4, .ptr 4 0), (12, .val (.list 3 (g.targets.map rvTarget))), (13, .val (num g.targets.length)), (14, .val (num i))], memOf [(1, gbox g), (4, lboxF (g.targets.map lgItem))]⟩
theorem is_fin (g : LGroup) (i : Nat) (l : List LJson) (x : LJson) : Le ⟨envOf [(1, .ptr 1 0), (4, .ptr 4 0), (12, .val (.list 3 (g.targets.map rvTarget))), (13, .val (num g.targets.length)), (14, .val (num i))], memOf [(1, gbox g), (4, lbox (.own 33)), (33, .row 40 5 ((l ++ [x]).map rvJson))]⟩
    ⟨envOf [(1, .ptr 1 0), (4, .ptr 4 0), (12, .val (.list 3 (g.targets.map rvTarget))), (13, .val (num g.targets.length)), (14, .val (num i))], memOf [(1, gbox g), (4, lboxF (l ++ [x]))]⟩ := by
  refine ((Le.freeze _ (fun _ => true)).trans (Le.plain _)).trans (Le.mk _ _ ?_ ?_)
  · simp [St.freeze, PV.frz, PV.pl]
  · simp [St.freeze, MObj.pl, gbox, lbox, lboxF, PV.frz, PV.frzL, PV.plL, PV.pl, frzOf]
theorem irt_from4 (g : LGroup) (hg : lgroupOK g = true ∧ g.name.length ≤ 1048576) (st : St) (e1 : st.env 1 = .ptr 1 0) (e4 : st.env 4 = .ptr 4 0) (m1 : st.mem 1 = gbox g) (m4 : st.mem 4 = lboxF (g.targets.map lgItem)) :
    EC Tryz.prog ir26_from4 st (K := ⟨RetP [.t 2, .t 3] (.tup [.val (tx (jtext (lgJson g))), .val (num 0)])⟩) := by
  unfold ir26_from4
  have hT := i_jtext 4 (lgJson g) (by omega) (lgJson_ok hg.1 hg.2)
  obtain ⟨r, hr⟩ : ∃ r, jtext (lgJson g) = r := ⟨_, rfl⟩
  rw [hr] at hT ⊢
  rw [lgJson, rvJson_mk] at hT
  simp [e1, e4, m1, m4, gbox, lboxF, tx, num, allVal, elems]
  refine callX_val rfl rfl (.inl rfl) (i_textOf g.name) ?_
  simp [e1, e4, m1, m4, gbox, lboxF, tx, num, allVal]
  refine callX_val rfl rfl (.inl rfl) (i_numberOf g.age) ?_
  simp [e1, e4, m1, m4, gbox, lboxF, tx, num, allVal, elems, jt, jn, rvJson_mk, RV.one, PV.kill, PV.killL]
  have e0 : ([rvJson (jt g.name), rvJson (jn g.age), rvJson (lgList g)] : List RV) = [jt g.name, jn g.age, lgList g].map rvJson := rfl
  refine callS_val (by rfl) rfl (.inl rfl) (r := tx r) (by simpa [gNames, bs, tx, num, jt, jn, lgList, rvJson_mk] using hT) ?_
  simp [tx, num]
theorem i_ReportToText (g : LGroup) (hb : bdGroup 1048576 g) : CallOK Tryz.prog 26 [.val (rvGroup g)] (.ret (rtRes g) []) [] := by
  refine call_val mixed ok26 rfl (fun _ => rfl) ?_
  unfold ir26
  rw [evalC_intro]
  unfold rtRes
  simp [initSt, avPVs, avPV, avBoxesL, avBoxes, tx, num, rvGroup, allVal]
  refine callS_val rfl rfl (.inl rfl) (i_GroupOK g hb) ?_
  cases hgo : lgroupOK g with
  | false => simp [tx, num, bs]
  | true =>
    have hg : lgroupOK g = true ∧ g.name.length ≤ 1048576 := ⟨hgo, hb.1⟩
    obtain ⟨h1, h4⟩ := lgroupOK_len hgo
    simp [tx, num, allVal, elems, RV.one, bs_size, PV.kill, PV.killL]
    refine loop_EC (X := Nat) (IS g) (fun i => i ≤ g.targets.length) (fun i => g.targets.length - i) 0 ?_ ?_ ?_
    · rw [IS, if_pos (by omega)]
      refine Le.mkD _ _ ?_ ?_
      · simp [num, tx, PV.kill]
      · simp [num, tx, gbox, lbox, MObj.kill, bs]
    · simp
    · intro i hi
      by_cases hlt : i < g.targets.length
      · rw [IS, if_pos hlt]
        have hx : ∃ x, g.targets[i] = x := ⟨_, rfl⟩
        obtain ⟨x, hx⟩ := hx
        have e1 : (g.targets.map rvTarget)[i]?.getD .nilptr = rvTarget x := by simp [List.getElem?_eq_getElem hlt, hx]
        have wi : IntKind.i64.wrap ((i : Int) + 1) = ((i + 1 : Nat) : Int) := by rw [wrap_i64 (by omega) (by omega)]; omega
        have hst : (g.targets.take (i + 1)).map lgItem = (g.targets.take i).map lgItem ++ [lgItem x] := by
          rw [List.take_add_one, List.getElem?_eq_getElem hlt, hx, List.map_append]; rfl
        have hal : ((g.targets.take i).map lgItem).length ≤ 4 := by simp; omega
        have fin : ∀ st' : St, st'.env 1 = .ptr 1 0 → st'.env 4 = .ptr 4 0 → st'.env 12 = .val (.list 3 (g.targets.map rvTarget)) → st'.env 13 = .val (num g.targets.length) → st'.env 14 = .val (num ((i + 1 : Nat) : Int)) → st'.mem 1 = gbox g → st'.mem 4 = lbox (.own 33) → st'.mem 33 = .row 40 5 (((g.targets.take i).map lgItem ++ [lgItem x]).map rvJson) →
            ∃ x', x' ≤ g.targets.length ∧ g.targets.length - x' < g.targets.length - i ∧ Le st' (IS g x') := fun st' q1 q4 q12 q13 q14 p1 p4 p33 => by
          refine ⟨i + 1, by omega, by omega, ?_⟩
          by_cases hn : i + 1 < g.targets.length
          · rw [IS, if_pos hn, hst, ownOr_snoc, rowOr_snoc]
            refine Le.mk _ _ ?_ ?_
            · simp [q1, q4, q12, q13, q14]
            · simp [p1, p4, p33]
          · rw [IS, if_neg hn]
            have : g.targets.map lgItem = (g.targets.take i).map lgItem ++ [lgItem x] := by
              rw [← hst, List.take_of_length_le (by omega)]
            rw [this]
            refine Le.trans (Le.mk _ _ ?_ ?_) (is_fin g (i + 1) ((g.targets.take i).map lgItem) (lgItem x))
            · simp [q1, q4, q12, q13, q14]
            · simp [p1, p4, p33]
        generalize (g.targets.take i).map lgItem = acc at *
        cases acc with
        | nil =>
          simp [num, tx, gbox, lbox, hlt, hx, rvTarget, elems, PV.kill, PV.killL, MObj.kill]
          refine callX_val rfl rfl (.inl rfl) (i_textOf x.url) ?_
          simp [num, tx, gbox, lbox, rvTarget, elems]
          refine callX_val rfl rfl (.inl rfl) (i_numberOf x.prio) ?_
          simp [num, tx, gbox, lbox, rvTarget, elems]
          refine callX_val rfl rfl (.inl rfl) (i_numberOf x.weight) ?_
          simp [num, tx, gbox, lbox, rvTarget, elems, jt, jn, rvJson_mk, RV.one, PV.kill, PV.killL, MObj.kill, allVal]
          refine fin _ ?_ ?_ ?_ ?_ ?_ ?_ ?_ ?_
          · simp [num]
          · simp [num]
          · simp [num]
          · simp [num]
          · simp [num, wi]
          · simp [num, tx, gbox]
          · simp [num, tx, lbox]
          · simp [num, tx, lgItem, jt, jn, rvJson_mk, tNames, bs]
        | cons a acc =>
          simp [num, tx, gbox, lbox, hlt, hx, rvTarget, elems, PV.kill, PV.killL, MObj.kill]
          refine callX_val rfl rfl (.inl rfl) (i_textOf x.url) ?_
          simp [num, tx, gbox, lbox, rvTarget, elems]
          refine callX_val rfl rfl (.inl rfl) (i_numberOf x.prio) ?_
          simp [num, tx, gbox, lbox, rvTarget, elems]
          refine callX_val rfl rfl (.inl rfl) (i_numberOf x.weight) ?_
          simp [num, tx, gbox, lbox, rvTarget, elems, jt, jn, rvJson_mk, RV.one, PV.kill, PV.killL, MObj.kill, allVal]
          simp at hal
          refine ⟨by omega, by omega, fin _ ?_ ?_ ?_ ?_ ?_ ?_ ?_ ?_⟩
          · simp [num]
          · simp [num]
          · simp [num]
          · simp [num]
          · simp [num, wi]
          · simp [num, tx, gbox]
          · simp [num, tx, lbox]
          · simp [num, tx, lgItem, jt, jn, rvJson_mk, tNames, bs]
      · rw [IS, if_neg hlt]
        have e : i = g.targets.length := by omega
        subst e
        simp [num, tx, gbox]
        refine irt_from4 g hg _ ?_ ?_ ?_ ?_
        all_goals simp [gbox, tx, num]
theorem law_ReportToText (g : LGroup) (hb : bdGroup 9223372036854775807 g) : CallOK Tryz.prog 6 [.val (rvGroup g)] (.ret (.val (.bool true)) []) [] := by
  refine call_val mixed ok6 rfl (fun _ => rfl) ?_
  unfold ir6
  rw [evalC_intro]
  simp [initSt, avPVs, avPV, avBoxesL, avBoxes, rvGroup, tx, num, allVal]
  refine callS_val rfl rfl (.inl rfl) (g_szGroup g 1048576 (by omega) (by omega) hb) ?_
  by_cases hz : cut 1048576 (zGroup g) < 0
  · simp [num, hz]
  · obtain ⟨hz1, _⟩ := cut_small hz (by omega)
    have hs : bdGroup 1048576 g := zGroup_bd (by omega)
    simp [num, hz, allVal]
    refine callS_val rfl rfl (.inl rfl) (g_toGroup g hs) ?_
    simp [allVal]
    refine callS_pv rfl rfl (fun _ => rfl) rfl (.inl rfl) (c_ReportToText g hs) ?_
    simp [allVal, rvGroup, tx, num, rtRes]
    refine callS_val rfl rfl (.inl rfl) (g_toGroup g hs) ?_
    simp [allVal, rvGroup, tx, num]
    refine callS_pv rfl rfl (fun _ => rfl) rfl (.inl rfl) (i_ReportToText g hs) ?_
    simp [allVal, rvGroup, tx, rtRes, num]
    refine callX_val rfl rfl (.inl rfl) (g_toGroup g hs) ?_
    simp [allVal, rvGroup, tx, num]
    refine callS_val rfl rfl (.inl rfl) (g_eqGroup g hs) ?_
    simp
end Go.Proofs
end
