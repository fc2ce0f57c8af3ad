/- Eh: merged out of IRff, IRcc, KJa, KJb. -/
import Derived.Test.YtaohlnejdphldaaGreatDoorPWv
import Derived.Test.YtaohlnejdphldaaGreatDoorChecked
import Derived.KernelRfl
import Derived.Test.YtaohlnejdphldaaGreatDoorCa
import Derived.Test.YtaohlnejdphldaaGreatDoorAc
import Derived.Test.YtaohlnejdphldaaGreatDoorEg

/- Functions of the seat as data. MADE BY PROGRAM (print_ir.py). -/
section
set_option maxRecDepth 100000
namespace Go.Proofs
open Go.PW Go.PW.I

end Go.Proofs
end

/- Functions of the seat as data. MADE BY PROGRAM (print_ir.py). -/
section
set_option maxRecDepth 100000
namespace Go.Proofs
open Go.PW Go.PW.I

/-- spec.l12Good -/
def ir60 : PC := .seq (.reg [o 1 (.box (.t 0)), o 2 (.mov F)]) (.seq (.reg [o 3 (.faddr 1 (.t 1)), l 4 3, o 5 (.bin .quo (.t 4) (i 100)), o 6 (.bin .eql (.t 5) (i 2)), m 2 6])
 (.ret))
theorem ok60 : chkFn Tryz.prog 60 ir60 1 [.t 2] = true := by kernel_rfl
/-- spec.l12In -/
def ir61 : PC := .seq (.reg [o 4 (.mov F)]) (.seq (.seq (.reg [o 5 (.mov (i 0))]) (.block 0 (.loop (.ghost (.seq (.seq (.reg [m 6 5, m 7 0, o 8 (.len (.t 7)), o 9 (.bin .lss (.t 6)
 (.t 8))]) (.cond (.t 9) (.skip) (.exit 0))) (.seq (.block 1 (.seq (.reg [m 12 0, m 13 5, o 14 (.iaddr 1 (.t 12) (.t 13)), l 15 14, m 16 1, o 17 (.bin .eql (.t 15) (.t 16))]) (.cond
 (.t 17) (.seq (.reg [o 4 (.mov T)]) (.ret)) (.skip)))) (.reg [m 10 5, o 11 (.bin .add (.t 10) (i 1)), m 5 11]))))))) (.seq (.reg [o 4 (.mov F)]) (.ret)))
theorem ok61 : chkFn Tryz.prog 61 ir61 2 [.t 4] = true := by kernel_rfl
/-- impl.success -/
def ir83 : PC := .seq (.reg [o 2 (.mov F)]) (.seq (.reg [m 3 0, o 4 (.call 77 [.t 3, .k (.val (.int .i64 200)), .k (.val (.int .i64 299))]), m 2 4]) (.ret))
theorem ok83 : chkFn Tryz.prog 83 ir83 1 [.t 2] = true := by kernel_rfl
/-- (impl.Wire).successful -/
def ir36 : PC := .seq (.reg [o 1 (.box (.t 0)), o 2 (.mov F)]) (.seq (.reg [o 3 (.faddr 1 (.t 1)), l 4 3, o 5 (.call 83 [.t 4]), m 2 5]) (.ret))
theorem ok36 : chkFn Tryz.prog 36 ir36 1 [.t 2] = true := by kernel_rfl
end Go.Proofs
end

/- What slices.* come to at some element types. MADE BY PROGRAM (gen_slices.py). -/
section
set_option maxRecDepth 100000
set_option linter.unusedVariables false
set_option linter.unusedSectionVars false
set_option linter.unusedSimpArgs false
namespace Go.Proofs
open Go.PW Go.KP
attribute [local simp] RV.cells RV.one PV.cells PV.solid PV.one vals? allVal mkAgg setAt RV.ofCells elems PV.killL
variable [GF]

end Go.Proofs
end

/- How often a report was answered: the laws of AcceptedOf and LossesOf. -/
section
set_option maxRecDepth 100000
set_option linter.unusedVariables false
set_option linter.unusedSectionVars false
set_option linter.unusedSimpArgs false
namespace Go.Proofs
open Go.PW Go.KP
attribute [local simp] RV.cells RV.one PV.cells PV.solid PV.one vals? allVal mkAgg setAt RV.ofCells elems PV.killL
variable [GH]

theorem tdiv100 (n : Int) : (n.tdiv 100 = 2) ↔ (200 ≤ n ∧ n ≤ 299) := by
  rcases Int.le_total 0 n with h | h
  · rw [Int.tdiv_eq_ediv_of_nonneg h]; omega
  · obtain ⟨m, rfl⟩ : ∃ m : Int, n = -m := ⟨-n, by omega⟩
    rw [Int.neg_tdiv, Int.tdiv_eq_ediv_of_nonneg (by omega)]
    omega

theorem c_l12Good (w : LWire) (hw : -9223372036854775808 ≤ w.status ∧ w.status ≤ 9223372036854775807) : CallOK Tryz.prog 60 [.val (rvWire w)] (.ret (.val (.bool (lgood w))) []) [] := by
  have wq : IntKind.i64.wrap (w.status.tdiv 100) = w.status.tdiv 100 := by
    rcases Int.le_total 0 w.status with h | h
    · rw [Int.tdiv_eq_ediv_of_nonneg h]; exact wrap_i64 (by omega) (by omega)
    · obtain ⟨m, hm⟩ : ∃ m : Int, w.status = -m := ⟨-w.status, by omega⟩
      rw [hm, Int.neg_tdiv, Int.tdiv_eq_ediv_of_nonneg (by omega)]
      exact wrap_i64 (by omega) (by omega)
  have e := tdiv100 w.status
  have w2 : IntKind.i64.wrap 2 = 2 := by decide
  unfold lgood
  by_cases h : 200 ≤ w.status ∧ w.status ≤ 299
  · rw [decide_eq_true h]
    refine call_val mixed ok60 rfl (fun _ => rfl) ?_
    unfold ir60
    rw [evalC_intro]
    simp [initSt, avPVs, avPV, avBoxesL, avBoxes, rvWire, tx, num, wq, e.2 h, w2]
  · rw [decide_eq_false h]
    have h2 : ¬ w.status.tdiv 100 = 2 := fun k => h (e.1 k)
    refine call_val mixed ok60 rfl (fun _ => rfl) ?_
    unfold ir60
    rw [evalC_intro]
    simp [initSt, avPVs, avPV, avBoxesL, avBoxes, rvWire, tx, num, wq, h2]

theorem c_l12In (l : List Int) (n : Int) (hl : l.length < 1099511627776) : CallOK Tryz.prog 61 [.val (.list 1 (l.map num)), .val (num n)] (.ret (.val (.bool (decide (n ∈ l)))) []) [] := by
  refine call_val mixed ok61 rfl (fun _ => rfl) ?_
  unfold ir61
  rw [evalC_intro]
  simp [initSt, avPVs, avPV, avBoxesL, avBoxes, num]
  refine loop_EC (X := Nat) (fun i => ⟨envOf [(0, .val (.list 1 (l.map num))), (1, .val (num n)), (5, .val (num i))], memOf []⟩) (fun i => i ≤ l.length ∧ ∀ k (hk : k < i) (hk' : k < l.length), l[k] ≠ n) (fun i => l.length - i) 0 (Le.mk _ _ ?_ ?_) ?_ ?_
  · simp [upd, num]
  · simp
  · simp
  · rintro i ⟨hi, hne⟩
    simp [num]
    refine iteP_intro (fun h1 => ?_) (fun h1 => ?_)
    · simp [num, h1]
      by_cases hu : l[i] = n
      · have hm : n ∈ l := by rw [← hu]; exact List.getElem_mem h1
        simp [hu, hm]
      · simp [hu]
        refine LoopNext.mk (i + 1) ⟨by omega, fun k hk hk' => ?_⟩ (by omega) (Le.mk _ _ ?_ ?_)
        · by_cases e : k = i
          · subst e; exact hu
          · exact hne k (by omega) hk'
        · simp [num]; exact wrap_i64 (by omega) (by omega)
        · simp
    · have e : i = l.length := by omega
      have hm : n ∉ l := fun h => by
        obtain ⟨k, hk, he⟩ := List.getElem_of_mem h
        exact hne k (by omega) hk he
      simp [hm]

theorem i_success (n : Int) : CallOK Tryz.prog 83 [.val (num n)] (.ret (.val (.bool (decide (200 ≤ n ∧ n ≤ 299)))) []) [] := by
  refine call_val mixed ok83 rfl (fun _ => rfl) ?_
  unfold ir83
  rw [evalC_intro]
  have h := i_within n 200 299
  simp [initSt, avPVs, avPV, avBoxesL, avBoxes, num]
  refine callS_val rfl rfl (.inl rfl) h ?_
  simp

theorem i_successful (w : LWire) : CallOK Tryz.prog 36 [.val (rvWire w)] (.ret (.val (.bool (lgood w))) []) [] := by
  have h := i_success w.status
  refine call_val mixed ok36 rfl (fun _ => rfl) ?_
  unfold ir36
  rw [evalC_intro]
  simp [initSt, avPVs, avPV, avBoxesL, avBoxes, rvWire, tx, num]
  refine callS_val rfl rfl (.inl rfl) h ?_
  simp [lgood]

theorem statuses (p : LPipe) (h : lpipeOK p = true) : ∀ w ∈ p.wires, -9223372036854775808 ≤ w.status ∧ w.status ≤ 9223372036854775807 := fun w hw => by
  unfold lpipeOK at h
  simp only [Bool.and_eq_true, List.all_eq_true] at h
  have h2 := h.2.2 w hw
  unfold lwireOK at h2
  simp only [Bool.and_eq_true, decide_eq_true_eq] at h2
  omega

end Go.Proofs
end
