/- Eh: merged out of IRff, IRcc, KJa, KJb. -/
import Derived.Test.YtaohlnejdphldaaGreatDoorPWv
import Derived.Test.YtaohlnejdphldaaGreatDoorChecked
import Derived.KernelRfl
import Derived.Test.YtaohlnejdphldaaGreatDoorCa
import Derived.Test.YtaohlnejdphldaaGreatDoorAc
import Derived.Test.YtaohlnejdphldaaGreatDoorEg

/- Functions of the seat as data. MADE BY PROGRAM (print_ir.py). -/
section
set_option maxRecDepth 100000
namespace Go.Proofs
open Go.PW Go.PW.I

/-- slices.Index[[]int,int] -/
def ir136 : PC := .seq (.reg [o 4 (.mov (i 0))]) (.seq (.seq (.reg [m 6 0, o 7 (.len (.t 6)), o 8 (.mov (i 0))]) (.block 0 (.loop (.ghost (.seq (.reg [o 9 (.bin .lss (.t 8) (.t
 7))]) (.seq (.cond (.t 9) (.skip) (.exit 0)) (.seq (.block 1 (.seq (.reg [m 10 8, m 5 10]) (.seq (.reg [m 11 1, m 12 0, m 13 5, o 14 (.iaddr 1 (.t 12) (.t 13)), l 15 14, o 16 (.bin
 .eql (.t 11) (.t 15))]) (.cond (.t 16) (.seq (.reg [m 17 5, m 4 17]) (.ret)) (.skip))))) (.reg [o 18 (.bin .add (.t 8) (i 1)), m 8 18])))))))) (.seq (.reg [o 4 (.mov (i (-1)))])
 (.ret)))
theorem ok136 : chkFn Tryz.prog 136 ir136 2 [.t 4] = true := by kernel_rfl
/-- slices.Contains[[]int,int] -/
def ir82 : PC := .seq (.reg [o 4 (.mov F)]) (.seq (.reg [m 5 0, m 6 1, o 7 (.call 136 [.t 5, .t 6]), o 8 (.bin .geq (.t 7) (i 0)), m 4 8]) (.ret))
theorem ok82 : chkFn Tryz.prog 82 ir82 2 [.t 4] = true := by kernel_rfl
end Go.Proofs
end

/- Functions of the seat as data. MADE BY PROGRAM (print_ir.py). -/
section
set_option maxRecDepth 100000
namespace Go.Proofs
open Go.PW Go.PW.I

/-- spec.l12Good -/
def ir60 : PC := .seq (.reg [o 1 (.box (.t 0)), o 2 (.mov F)]) (.seq (.reg [o 3 (.faddr 1 (.t 1)), l 4 3, o 5 (.bin .quo (.t 4) (i 100)), o 6 (.bin .eql (.t 5) (i 2)), m 2 6])
 (.ret))
theorem ok60 : chkFn Tryz.prog 60 ir60 1 [.t 2] = true := by kernel_rfl
/-- spec.l12In -/
def ir61 : PC := .seq (.reg [o 4 (.mov F)]) (.seq (.seq (.reg [o 5 (.mov (i 0))]) (.block 0 (.loop (.ghost (.seq (.seq (.reg [m 6 5, m 7 0, o 8 (.len (.t 7)), o 9 (.bin .lss (.t 6)
 (.t 8))]) (.cond (.t 9) (.skip) (.exit 0))) (.seq (.block 1 (.seq (.reg [m 12 0, m 13 5, o 14 (.iaddr 1 (.t 12) (.t 13)), l 15 14, m 16 1, o 17 (.bin .eql (.t 15) (.t 16))]) (.cond
 (.t 17) (.seq (.reg [o 4 (.mov T)]) (.ret)) (.skip)))) (.reg [m 10 5, o 11 (.bin .add (.t 10) (i 1)), m 5 11]))))))) (.seq (.reg [o 4 (.mov F)]) (.ret)))
theorem ok61 : chkFn Tryz.prog 61 ir61 2 [.t 4] = true := by kernel_rfl
/-- spec.l12Count -/
def ir29 : PC := .seq (.reg [o 3 (.box (.t 0)), o 6 (.mov (i 0))]) (.seq (.reg [o 7 (.mov (i 0))]) (.seq (.seq (.reg [o 8 (.mov (i 0))]) (.block 0 (.loop (.ghost (.seq (.seq (.reg
 [m 10 8, o 11 (.faddr 7 (.t 3)), l 12 11, o 13 (.len (.t 12)), o 14 (.bin .lss (.t 10) (.t 13))]) (.cond (.t 14) (.skip) (.exit 0))) (.seq (.block 1 (.seq (.reg [o 17 (.faddr 7 (.t
 3)), l 18 17, m 19 8, o 20 (.iaddr 7 (.t 18) (.t 19)), o 21 (.load true 7 (.t 20)), o 9 (.alloc [.val (.int .i64 0), .val (.int .i64 0), .val (.str ⟨#[]⟩), .val (.str ⟨#[]⟩), .emp
 1, .val (.str ⟨#[]⟩), .val (.bool false)]), n (.store 7 (.t 9) (.t 21))]) (.seq (.reg [o 22 (.faddr 4 (.t 9)), l 23 22, m 24 1, o 25 (.call 61 [.t 23, .t 24]), m 26 25, g 27 26
 true (.load true 7 (.t 9)), g 28 26 true (.call 60 [.t 27]), o 29 (.pick (.t 26) (.t 28) F), m 30 29, g 31 30 true (.faddr 6 (.t 9)), g 32 30 true (.load false 1 (.t 31)), g 33 30
 true (.mov (.t 32)), g 34 33 false (.mov (.t 2)), g 35 33 false (.un .not (.t 34)), g 36 30 true (.pick (.t 33) T (.t 35)), o 37 (.pick (.t 30) (.t 36) F)]) (.cond (.t 37) (.reg [m
 38 7, o 39 (.bin .add (.t 38) (i 1)), m 7 39]) (.skip))))) (.reg [m 15 8, o 16 (.bin .add (.t 15) (i 1)), m 8 16]))))))) (.seq (.reg [m 40 7, m 6 40]) (.ret))))
theorem ok29 : chkFn Tryz.prog 29 ir29 3 [.t 6] = true := by kernel_rfl
/-- spec.LossesOf -/
def ir14 : PC := .seq (.reg [o 2 (.box (.t 0)), o 4 (.mov (i 0)), o 5 (.mov (i 0))]) (.seq (.seq (.reg [o 6 (.load true 8 (.t 2)), o 7 (.call 28 [.t 6]), o 8 (.un .not (.t 7))])
 (.cond (.t 8) (.seq (.reg [o 4 (.mov (i 0)), o 5 (.mov (i 1))]) (.ret)) (.skip))) (.seq (.reg [o 9 (.load true 8 (.t 2)), m 10 1, o 11 (.call 29 [.t 9, .t 10, .k (.val (.bool
 true))]), m 4 11, o 5 (.mov (i 0))]) (.ret)))
theorem ok14 : chkFn Tryz.prog 14 ir14 2 [.t 4, .t 5] = true := by kernel_rfl
/-- impl.success -/
def ir83 : PC := .seq (.reg [o 2 (.mov F)]) (.seq (.reg [m 3 0, o 4 (.call 77 [.t 3, .k (.val (.int .i64 200)), .k (.val (.int .i64 299))]), m 2 4]) (.ret))
theorem ok83 : chkFn Tryz.prog 83 ir83 1 [.t 2] = true := by kernel_rfl
/-- (impl.Wire).lost -/
def ir41 : PC := .seq (.reg [o 1 (.box (.t 0)), o 2 (.mov F)]) (.seq (.reg [o 3 (.faddr 1 (.t 1)), l 4 3, o 5 (.call 83 [.t 4]), m 6 5, g 7 6 true (.faddr 6 (.t 1)), g 8 6 true
 (.load false 1 (.t 7)), o 9 (.pick (.t 6) (.t 8) F), m 2 9]) (.ret))
theorem ok41 : chkFn Tryz.prog 41 ir41 1 [.t 2] = true := by kernel_rfl
/-- (impl.Pipe).count -/
def ir35 : PC := .seq (.reg [o 3 (.box (.t 0)), o 6 (.mov (i 0))]) (.seq (.reg [o 7 (.mov (i 0))]) (.seq (.seq (.reg [o 10 (.faddr 7 (.t 3)), l 11 10, o 12 (.len (.t 11)), o 13
 (.mov (i 0))]) (.block 0 (.loop (.ghost (.seq (.reg [o 14 (.bin .lss (.t 13) (.t 12))]) (.seq (.cond (.t 14) (.skip) (.exit 0)) (.seq (.block 1 (.seq (.reg [o 15 (.iaddr 7 (.t 11)
 (.t 13)), o 16 (.load true 7 (.t 15)), o 9 (.alloc [.val (.int .i64 0), .val (.int .i64 0), .val (.str ⟨#[]⟩), .val (.str ⟨#[]⟩), .emp 1, .val (.str ⟨#[]⟩), .val (.bool false)]), n
 (.store 7 (.t 9) (.t 16))]) (.seq (.reg [m 17 2, o 18 (.load true 7 (.t 9)), o 19 (.callv (.t 17) [.t 18]), m 20 19, g 21 20 true (.faddr 4 (.t 9)), g 22 20 true (.load false 1 (.t
 21)), g 23 20 true (.mov (.t 1)), g 24 20 true (.call 82 [.t 22, .t 23]), o 25 (.pick (.t 20) (.t 24) F)]) (.cond (.t 25) (.reg [m 26 7, o 27 (.bin .add (.t 26) (i 1)), m 7 27])
 (.skip))))) (.reg [o 28 (.bin .add (.t 13) (i 1)), m 13 28])))))))) (.seq (.reg [m 29 7, m 6 29]) (.ret))))
theorem ok35 : chkFn Tryz.prog 35 ir35 3 [.t 6] = true := by kernel_rfl
/-- impl.LossesOf -/
def ir15 : PC := .seq (.reg [o 2 (.box (.t 0)), o 4 (.mov (i 0)), o 5 (.mov (i 0))]) (.seq (.seq (.reg [o 6 (.load true 8 (.t 2)), o 7 (.call 34 [.t 6]), o 8 (.un .not (.t 7))])
 (.cond (.t 8) (.seq (.reg [o 4 (.mov (i 0)), o 5 (.mov (i 1))]) (.ret)) (.skip))) (.seq (.reg [o 9 (.load true 8 (.t 2)), m 10 1, o 11 (.call 35 [.t 9, .t 10, .k (.fn 41 [])]), m 4
 11, o 5 (.mov (i 0))]) (.ret)))
theorem ok15 : chkFn Tryz.prog 15 ir15 2 [.t 4, .t 5] = true := by kernel_rfl
end Go.Proofs
end

/- What slices.* come to at some element types. MADE BY PROGRAM (gen_slices.py). -/
section
set_option maxRecDepth 100000
set_option linter.unusedVariables false
set_option linter.unusedSectionVars false
set_option linter.unusedSimpArgs false
namespace Go.Proofs
open Go.PW Go.KP
attribute [local simp] RV.cells RV.one PV.cells PV.solid PV.one vals? allVal mkAgg setAt RV.ofCells elems PV.killL
variable [GF]

theorem i_Index_int (l : List Int) (v : Int) (hl : l.length < 1099511627776) : CallOK Tryz.prog 136 [.val (.list 1 (l.map num)), .val (num v)] (.ret (.val (num (lidx l fun x => decide (x = v)))) []) [] := by
  refine call_val mixed ok136 rfl (fun _ => rfl) ?_
  unfold ir136
  rw [evalC_intro]
  simp [initSt, avPVs, avPV, avBoxesL, avBoxes, num]
  refine loop_EC (X := Nat) (fun i => ⟨envOf [(0, .val (.list 1 (l.map num))), (1, .val (num v)), (7, .val (num l.length)), (8, .val (num i))], memOf []⟩) (fun i => i ≤ l.length ∧ ∀ k (hk : k < i) (hk' : k < l.length), l[k] ≠ v) (fun i => l.length - i) 0 (Le.mk _ _ ?_ ?_) ?_ ?_
  · simp [upd, num]
  · simp
  · simp
  · rintro i ⟨hi, hne⟩
    simp [num]
    refine iteP_intro (fun h1 => ?_) (fun h1 => ?_)
    · have e1 : (l.map num)[i]?.getD .nilptr = num l[i] := by simp [List.getElem?_eq_getElem h1]
      by_cases hv : v = l[i]
      · have hh : lidx l (fun x => decide (x = v)) = i := lidx_hit h1 (by simp [← hv]) (fun k hk => by simp [hne k hk (by omega)])
        simp [num, h1, e1, tx, (eq_true hv : (v = l[i]) = True)]
        rw [hh]
      · simp [num, h1, e1, tx, hv]
        refine LoopNext.mk (i + 1) ⟨by omega, fun k hk hk' => ?_⟩ (by omega) (Le.mk _ _ ?_ ?_)
        · by_cases e : k = i
          · subst e; exact fun h => hv h.symm
          · exact hne k (by omega) hk'
        · simp [num, tx]; exact wrap_i64 (by omega) (by omega)
        · simp
    · have e : i = l.length := by omega
      subst e
      have hh : lidx l (fun x => decide (x = v)) = -1 := lidx_none (fun k hk => by simp [hne k hk hk])
      simp [num, hh]

theorem i_Contains_int (l : List Int) (v : Int) (hl : l.length < 1099511627776) : CallOK Tryz.prog 82 [.val (.list 1 (l.map num)), .val (num v)] (.ret (.val (.bool (decide (v ∈ l)))) []) [] := by
  refine call_val mixed ok82 rfl (fun _ => rfl) ?_
  unfold ir82
  rw [evalC_intro]
  simp [initSt, avPVs, avPV, avBoxesL, avBoxes, num]
  refine callS_val rfl rfl (.inl rfl) (i_Index_int l v hl) ?_
  have hg := lidx_ge l (fun x => decide (x = v))
  rw [Bool.eq_iff_iff] at hg
  simp only [decide_eq_true_eq, List.any_eq_true, exists_eq_right] at hg
  simp [num, hg]

end Go.Proofs
end

/- How often a report was answered: the laws of AcceptedOf and LossesOf. -/
section
set_option maxRecDepth 100000
set_option linter.unusedVariables false
set_option linter.unusedSectionVars false
set_option linter.unusedSimpArgs false
namespace Go.Proofs
open Go.PW Go.KP
attribute [local simp] RV.cells RV.one PV.cells PV.solid PV.one vals? allVal mkAgg setAt RV.ofCells elems PV.killL
variable [GH]

theorem tdiv100 (n : Int) : (n.tdiv 100 = 2) ↔ (200 ≤ n ∧ n ≤ 299) := by
  rcases Int.le_total 0 n with h | h
  · rw [Int.tdiv_eq_ediv_of_nonneg h]; omega
  · obtain ⟨m, rfl⟩ : ∃ m : Int, n = -m := ⟨-n, by omega⟩
    rw [Int.neg_tdiv, Int.tdiv_eq_ediv_of_nonneg (by omega)]
    omega

theorem c_l12Good (w : LWire) (hw : -9223372036854775808 ≤ w.status ∧ w.status ≤ 9223372036854775807) : CallOK Tryz.prog 60 [.val (rvWire w)] (.ret (.val (.bool (lgood w))) []) [] := by
  have wq : IntKind.i64.wrap (w.status.tdiv 100) = w.status.tdiv 100 := by
    rcases Int.le_total 0 w.status with h | h
    · rw [Int.tdiv_eq_ediv_of_nonneg h]; exact wrap_i64 (by omega) (by omega)
    · obtain ⟨m, hm⟩ : ∃ m : Int, w.status = -m := ⟨-w.status, by omega⟩
      rw [hm, Int.neg_tdiv, Int.tdiv_eq_ediv_of_nonneg (by omega)]
      exact wrap_i64 (by omega) (by omega)
  have e := tdiv100 w.status
  have w2 : IntKind.i64.wrap 2 = 2 := by decide
  unfold lgood
  by_cases h : 200 ≤ w.status ∧ w.status ≤ 299
  · rw [decide_eq_true h]
    refine call_val mixed ok60 rfl (fun _ => rfl) ?_
    unfold ir60
    rw [evalC_intro]
    simp [initSt, avPVs, avPV, avBoxesL, avBoxes, rvWire, tx, num, wq, e.2 h, w2]
  · rw [decide_eq_false h]
    have h2 : ¬ w.status.tdiv 100 = 2 := fun k => h (e.1 k)
    refine call_val mixed ok60 rfl (fun _ => rfl) ?_
    unfold ir60
    rw [evalC_intro]
    simp [initSt, avPVs, avPV, avBoxesL, avBoxes, rvWire, tx, num, wq, h2]

theorem c_l12In (l : List Int) (n : Int) (hl : l.length < 1099511627776) : CallOK Tryz.prog 61 [.val (.list 1 (l.map num)), .val (num n)] (.ret (.val (.bool (decide (n ∈ l)))) []) [] := by
  refine call_val mixed ok61 rfl (fun _ => rfl) ?_
  unfold ir61
  rw [evalC_intro]
  simp [initSt, avPVs, avPV, avBoxesL, avBoxes, num]
  refine loop_EC (X := Nat) (fun i => ⟨envOf [(0, .val (.list 1 (l.map num))), (1, .val (num n)), (5, .val (num i))], memOf []⟩) (fun i => i ≤ l.length ∧ ∀ k (hk : k < i) (hk' : k < l.length), l[k] ≠ n) (fun i => l.length - i) 0 (Le.mk _ _ ?_ ?_) ?_ ?_
  · simp [upd, num]
  · simp
  · simp
  · rintro i ⟨hi, hne⟩
    simp [num]
    refine iteP_intro (fun h1 => ?_) (fun h1 => ?_)
    · simp [num, h1]
      by_cases hu : l[i] = n
      · have hm : n ∈ l := by rw [← hu]; exact List.getElem_mem h1
        simp [hu, hm]
      · simp [hu]
        refine LoopNext.mk (i + 1) ⟨by omega, fun k hk hk' => ?_⟩ (by omega) (Le.mk _ _ ?_ ?_)
        · by_cases e : k = i
          · subst e; exact hu
          · exact hne k (by omega) hk'
        · simp [num]; exact wrap_i64 (by omega) (by omega)
        · simp
    · have e : i = l.length := by omega
      have hm : n ∉ l := fun h => by
        obtain ⟨k, hk, he⟩ := List.getElem_of_mem h
        exact hne k (by omega) hk he
      simp [hm]

theorem c_l12Count (p : LPipe) (id : Int) (lost : Bool) (hb : bdPipe 1048576 p) (hs : ∀ w ∈ p.wires, -9223372036854775808 ≤ w.status ∧ w.status ≤ 9223372036854775807) : CallOK Tryz.prog 29 [.val (rvPipe p), .val (num id), .val (.bool lost)] (.ret (.val (num (lcountW lost id p.wires))) []) [] := by
  have hwl : p.wires.length ≤ 1048576 := hb.2.2.2.1
  refine call_val mixed ok29 rfl (fun _ => rfl) ?_
  unfold ir29
  rw [evalC_intro]
  simp [initSt, avPVs, avPV, avBoxesL, avBoxes, rvPipe, tx, num]
  refine loop_EC (X := Nat) (fun i => ⟨envOf [(1, .val (num id)), (2, .val (.bool lost)), (3, .ptr 3 0), (7, .val (num (lcountW lost id (p.wires.take i)))), (8, .val (num i))], memOf [(3, pBox p)]⟩) (fun i => i ≤ p.wires.length) (fun i => p.wires.length - i) 0 (Le.mk _ _ ?_ ?_) ?_ ?_
  · simp [upd, num, PV.kill, lcountW]
  · simp [pBox, tx, num, MObj.kill, PV.kill]
  · simp
  · intro i hi
    have hcl : lcountW lost id (p.wires.take i) ≤ i := by
      unfold lcountW
      refine Nat.le_trans List.countP_le_length ?_
      simp; omega
    simp [num, pBox]
    refine iteP_intro (fun h1 => ?_) (fun h1 => ?_)
    · have hst := lcountW_take lost id p.wires i h1
      have hsw := hs _ (List.getElem_mem h1)
      have hbw := hb.2.2.2.2 _ (List.getElem_mem h1)
      obtain ⟨w, hw⟩ : ∃ w, p.wires[i] = w := ⟨_, rfl⟩
      rw [hw] at hst hsw hbw
      have hil : w.ids.length ≤ 1048576 := hbw.2.2.1
      have hI := c_l12In w.ids id (by omega)
      have hG := c_l12Good w hsw
      have wi : IntKind.i64.wrap ((i : Int) + 1) = ((i + 1 : Nat) : Int) := by rw [wrap_i64 (by omega) (by omega)]; omega
      have wc : IntKind.i64.wrap ((lcountW lost id (p.wires.take i) : Int) + 1) = (lcountW lost id (p.wires.take i) : Int) + 1 := wrap_i64 (by omega) (by omega)
      simp [num, h1, hw, rvWire, tx, PV.kill, MObj.kill]
      refine callS_val rfl rfl (.inl rfl) hI ?_
      cases h2 : decide (id ∈ w.ids) with
      | false =>
        rw [h2] at hst
        simp at hst
        simp
        refine LoopNext.mk (i + 1) h1 (by omega) (Le.mk _ _ ?_ ?_)
        · simp [num, wi, PV.kill, hst]
        · simp [tx, pBox, num, PV.kill, MObj.kill]
      | true =>
      rw [h2] at hst
      simp [num, tx, PV.kill, MObj.kill]
      refine callS_val rfl rfl (.inl rfl) hG ?_
      cases h3 : lgood w with
      | false =>
        rw [h3] at hst
        simp at hst
        simp
        refine LoopNext.mk (i + 1) h1 (by omega) (Le.mk _ _ ?_ ?_)
        · simp [num, wi, PV.kill, hst]
        · simp [tx, pBox, num, PV.kill, MObj.kill]
      | true =>
      rw [h3] at hst
      cases h4 : w.lost <;> cases lost <;> (
        rw [h4] at hst
        simp at hst
        simp [num, h4, PV.kill]
        refine LoopNext.mk (i + 1) h1 (by omega) (Le.mk _ _ ?_ ?_)
        · simp [num, wi, wc, PV.kill, hst]
        · simp [tx, pBox, num, PV.kill, MObj.kill, h4])
    · have e : i = p.wires.length := by omega
      subst e
      simp [num, List.take_length]

theorem i_success (n : Int) : CallOK Tryz.prog 83 [.val (num n)] (.ret (.val (.bool (decide (200 ≤ n ∧ n ≤ 299)))) []) [] := by
  refine call_val mixed ok83 rfl (fun _ => rfl) ?_
  unfold ir83
  rw [evalC_intro]
  have h := i_within n 200 299
  simp [initSt, avPVs, avPV, avBoxesL, avBoxes, num]
  refine callS_val rfl rfl (.inl rfl) h ?_
  simp

theorem i_lost (w : LWire) : CallOK Tryz.prog 41 [.val (rvWire w)] (.ret (.val (.bool (lgood w && w.lost))) []) [] := by
  have h := i_success w.status
  have e : lgood w = decide (200 ≤ w.status ∧ w.status ≤ 299) := rfl
  rw [e]
  generalize decide (200 ≤ w.status ∧ w.status ≤ 299) = b at *
  refine call_val mixed ok41 rfl (fun _ => rfl) ?_
  unfold ir41
  rw [evalC_intro]
  simp [initSt, avPVs, avPV, avBoxesL, avBoxes, rvWire, tx, num]
  refine callS_val rfl rfl (.inl rfl) h ?_
  cases b <;> simp

theorem i_count (p : LPipe) (id : Int) (lost : Bool) (f : Nat) (hb : bdPipe 1048576 p) (hg : fnB Tryz.prog f = true) (hf : ∀ w, CallOK Tryz.prog f [.val (rvWire w)] (.ret (.val (.bool (lgood w && (w.lost || !lost)))) []) []) : CallOK Tryz.prog 35 [.val (rvPipe p), .val (num id), .fn f []] (.ret (.val (num (lcountW lost id p.wires))) []) [] := by
  have hwl : p.wires.length ≤ 1048576 := hb.2.2.2.1
  refine call_val mixed ok35 rfl (fun _ => rfl) ?_
  unfold ir35
  rw [evalC_intro]
  simp [initSt, avPVs, avPV, avBoxesL, avBoxes, rvPipe, tx, num]
  refine loop_EC (X := Nat) (fun i => ⟨envOf [(1, .val (num id)), (2, .fn f []), (3, .ptr 3 0), (7, .val (num (lcountW lost id (p.wires.take i)))), (11, .val (.list 7 (p.wires.map rvWire))), (12, .val (num p.wires.length)), (13, .val (num i))], memOf [(3, pBox p)]⟩) (fun i => i ≤ p.wires.length) (fun i => p.wires.length - i) 0 (Le.mk _ _ ?_ ?_) ?_ ?_
  · simp [upd, num, PV.kill, lcountW]
  · simp [pBox, tx, num, MObj.kill, PV.kill]
  · simp
  · intro i hi
    have hcl : lcountW lost id (p.wires.take i) ≤ i := by
      unfold lcountW
      refine Nat.le_trans List.countP_le_length ?_
      simp; omega
    simp [num, pBox]
    refine iteP_intro (fun h1 => ?_) (fun h1 => ?_)
    · have hst := lcountW_take lost id p.wires i h1
      have hbw := hb.2.2.2.2 _ (List.getElem_mem h1)
      obtain ⟨w, hw⟩ : ∃ w, p.wires[i] = w := ⟨_, rfl⟩
      rw [hw] at hst hbw
      have hil : w.ids.length ≤ 1048576 := hbw.2.2.1
      have hI := i_Contains_int w.ids id (by omega)
      have hG := hf w
      have wi : IntKind.i64.wrap ((i : Int) + 1) = ((i + 1 : Nat) : Int) := by rw [wrap_i64 (by omega) (by omega)]; omega
      have wc : IntKind.i64.wrap ((lcountW lost id (p.wires.take i) : Int) + 1) = (lcountW lost id (p.wires.take i) : Int) + 1 := wrap_i64 (by omega) (by omega)
      rw [Bool.and_assoc] at hst
      generalize hbb : (lgood w && (w.lost || !lost)) = b at hst hG
      simp [num, h1, hw, rvWire, tx, PV.kill, MObj.kill, hg]
      refine callS_val rfl rfl (.inl rfl) hG ?_
      cases b with
      | false =>
        simp at hst
        simp
        refine LoopNext.mk (i + 1) h1 (by omega) (Le.mk _ _ ?_ ?_)
        · simp [num, wi, PV.kill, hst]
        · simp [tx, pBox, num, PV.kill, MObj.kill]
      | true =>
      simp [num, tx, PV.kill, MObj.kill]
      refine callS_val rfl rfl (.inl rfl) hI ?_
      cases h2 : decide (id ∈ w.ids) with
      | false =>
        rw [h2] at hst
        simp at hst
        simp
        refine LoopNext.mk (i + 1) h1 (by omega) (Le.mk _ _ ?_ ?_)
        · simp [num, wi, PV.kill, hst]
        · simp [tx, pBox, num, PV.kill, MObj.kill]
      | true =>
        rw [h2] at hst
        simp at hst
        simp [num, PV.kill]
        refine LoopNext.mk (i + 1) h1 (by omega) (Le.mk _ _ ?_ ?_)
        · simp [num, wi, wc, PV.kill, hst]
        · simp [tx, pBox, num, PV.kill, MObj.kill]
    · have e : i = p.wires.length := by omega
      subst e
      simp [num, List.take_length]

theorem statuses (p : LPipe) (h : lpipeOK p = true) : ∀ w ∈ p.wires, -9223372036854775808 ≤ w.status ∧ w.status ≤ 9223372036854775807 := fun w hw => by
  unfold lpipeOK at h
  simp only [Bool.and_eq_true, List.all_eq_true] at h
  have h2 := h.2.2 w hw
  unfold lwireOK at h2
  simp only [Bool.and_eq_true, decide_eq_true_eq] at h2
  omega

theorem c_specLossesOf (p : LPipe) (id : Int) (hb : bdPipe 1048576 p) : CallOK Tryz.prog 14 [.val (rvPipe p), .val (num id)] (.ret (.tup [.val (num (lcountRes true p id).1), .val (num (lcountRes true p id).2)]) []) [] := by
  have hP := c_l08OK p hb
  unfold lcountRes
  cases hk : lpipeOK p with
  | false =>
    rw [hk] at hP
    refine call_val mixed ok14 rfl (fun _ => rfl) ?_
    unfold ir14
    rw [evalC_intro]
    simp [initSt, avPVs, avPV, avBoxesL, avBoxes, rvPipe, tx, num]
    refine callS_val rfl rfl (.inl rfl) hP ?_
    simp [num]
  | true =>
    rw [hk] at hP
    have hC := c_l12Count p id true hb (statuses p hk)
    refine call_val mixed ok14 rfl (fun _ => rfl) ?_
    unfold ir14
    rw [evalC_intro]
    simp [initSt, avPVs, avPV, avBoxesL, avBoxes, rvPipe, tx, num]
    refine callS_val rfl rfl (.inl rfl) hP ?_
    simp [num]
    refine callS_val rfl rfl (.inl rfl) hC ?_
    simp [num]

theorem i_LossesOf (p : LPipe) (id : Int) (hb : bdPipe 1048576 p) : CallOK Tryz.prog 15 [.val (rvPipe p), .val (num id)] (.ret (.tup [.val (num (lcountRes true p id).1), .val (num (lcountRes true p id).2)]) []) [] := by
  have hP := i_PipeOK p hb
  have hC := i_count p id true 41 hb (by kernel_rfl) (fun w => by simpa using i_lost w)
  unfold lcountRes
  cases hk : lpipeOK p with
  | false =>
    rw [hk] at hP
    refine call_val mixed ok15 rfl (fun _ => rfl) ?_
    unfold ir15
    rw [evalC_intro]
    simp [initSt, avPVs, avPV, avBoxesL, avBoxes, rvPipe, tx, num]
    refine callS_val rfl rfl (.inl rfl) hP ?_
    simp [num]
  | true =>
    rw [hk] at hP
    refine call_val mixed ok15 rfl (fun _ => rfl) ?_
    unfold ir15
    rw [evalC_intro]
    simp [initSt, avPVs, avPV, avBoxesL, avBoxes, rvPipe, tx, num]
    refine callS_val rfl rfl (.inl rfl) hP ?_
    simp [num]
    refine callS_val rfl rfl (.inl rfl) hC ?_
    simp [num]

theorem law_LossesOf (p : LPipe) (id : Int) (hb : bdPipe 9223372036854775807 p) : CallOK Tryz.prog 4 [.val (rvPipe p), .val (num id)] (.ret (.val (.bool true)) []) [] := by
  refine call_val mixed ok4 rfl (fun _ => rfl) ?_
  unfold ir4
  rw [evalC_intro]
  simp [initSt, avPVs, avPV, avBoxesL, avBoxes, rvPipe, tx, num, allVal]
  refine callS_val rfl rfl (.inl rfl) (g_szPipe p 1048576 (by omega) (by omega) hb) ?_
  by_cases hz : cut 1048576 (zPipe p) < 0
  · simp [num, hz]
  · obtain ⟨hz1, _⟩ := cut_small hz (by omega)
    have hs : bdPipe 1048576 p := zPipe_bd (by omega)
    simp [num, hz, allVal]
    refine callS_val rfl rfl (.inl rfl) (g_toPipe p hs) ?_
    simp [allVal, num]
    refine callS_two rfl rfl (.inl rfl) (c_specLossesOf p id hs) ?_
    simp [allVal, rvPipe, tx, num]
    refine callS_val rfl rfl (.inl rfl) (g_toPipe p hs) ?_
    simp [allVal, rvPipe, tx, num]
    refine callS_two rfl rfl (.inl rfl) (i_LossesOf p id hs) ?_
    simp [allVal, rvPipe, tx, num]
    refine callX_val rfl rfl (.inl rfl) (g_toPipe p hs) ?_
    simp [allVal, rvPipe, tx, num]
    refine callS_val rfl rfl (.inl rfl) (g_eqPipe p hs) ?_
    simp
end Go.Proofs
end
