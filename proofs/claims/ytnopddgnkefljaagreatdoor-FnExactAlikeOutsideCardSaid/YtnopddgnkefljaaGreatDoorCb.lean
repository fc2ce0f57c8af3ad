/- Cb: merged out of KSk, KSm. -/
import Derived.Test.YtnopddgnkefljaaGreatDoorCa
import Derived.Test.YtnopddgnkefljaaGreatDoorAc
import Derived.Test.YtnopddgnkefljaaGreatDoorBb

/- What the spec's functions on names, rules and policies come to. -/
section
set_option maxRecDepth 100000
set_option linter.unusedVariables false
set_option linter.unusedSectionVars false
set_option linter.unusedSimpArgs false
namespace Go.Proofs
open Go.PW Go.KP
attribute [local simp] RV.cells RV.one PV.cells PV.solid PV.one vals? allVal mkAgg setAt RV.ofCells elems PV.killL
variable [GF]

theorem isLow_isRul {c : UInt8} (h : isLow c = true) : isRul c = true := by simp [isRul, h]
theorem c_l04Name (t : Tx) (ht : t.length < 1099511627776) : CallOK Tryz.prog 70 [.val (tx t)] (.ret (.val (.bool (lrname t))) []) [] := by
  refine call_val mixed ok70 rfl (fun _ => rfl) ?_
  unfold ir70
  rw [evalC_intro]
  simp [initSt, avPVs, avPV, avBoxesL, avBoxes, tx, bs_size]
  refine callS_val rfl rfl (.inl rfl) (c_l01In .i64 t.length 1 24) ?_
  by_cases hlen : 1 ≤ t.length ∧ t.length ≤ 24
  rotate_left
  · rw [show decide ((1 : Int) ≤ t.length ∧ (t.length : Int) ≤ 24) = false from decide_eq_false (by omega)]
    have : lrname t = false := by unfold lrname; rw [decide_eq_false hlen]; rfl
    simp [this]
  rw [show decide ((1 : Int) ≤ t.length ∧ (t.length : Int) ≤ 24) = true from decide_eq_true (by omega)]
  have hw : lrname t = headAll isLow isRul t := by unfold lrname; rw [decide_eq_true hlen]; rfl
  simp
  refine loop_EC (X := Nat) (fun i => ⟨envOf [(0, .val (.str (bs t))), (3, .val (.int .i64 i))], memOf []⟩) (fun i => i ≤ t.length ∧ headAll isLow isRul (t.take i) = true) (fun i => t.length - i) 0 (Le.mk _ _ ?_ ?_) ?_ ?_
  · simp [upd]
  · simp
  · simp [headAll]
  · rintro i ⟨hi, hall⟩
    simp [bs_size, byteAt_bs]
    refine iteP_intro (fun h3 => ?_) (fun h3 => ?_)
    · have hstep := headAll_succ (p := isLow) (q := isRul) (fun _ h => isLow_isRul h) t i h3
      rw [hall, Bool.true_and] at hstep
      have hbad := headAll_false (p := isLow) (q := isRul) t i h3
      have e1 : ((t[i].toNat : Int) < 97) ↔ t[i].toNat < 97 := by omega
      have e2 : ((122 : Int) < t[i].toNat) ↔ 122 < t[i].toNat := by omega
      have e3 : ((t[i].toNat : Int) = 45) ↔ t[i].toNat = 45 := by omega
      have hgood : (if i = 0 then isLow t[i] else isRul t[i]) = true → ∀ st' : St, st'.env 0 = .val (.str (bs t)) → st'.env 3 = .val (.int .i64 (IntKind.i64.wrap ((i : Int) + 1))) →
          ∃ x', (x' ≤ t.length ∧ headAll isLow isRul (t.take x') = true) ∧ t.length - x' < t.length - i ∧ Le st' ⟨envOf [(0, .val (.str (bs t))), (3, .val (.int .i64 (x' : Int)))], memOf []⟩ := fun hg st' q1 q2 => by
        refine ⟨i + 1, ⟨by omega, by rw [hstep, hg]⟩, by omega, Le.mk _ _ ?_ ?_⟩
        · simp [q1, q2]; exact wrap_i64 (by omega) (by omega)
        · simp
      have hres : (if i = 0 then isLow t[i] else isRul t[i]) = false → lrname t = false := fun h => by rw [hw]; exact hbad h
      by_cases a4 : i = 0
      · rw [if_pos a4] at hgood hres
        by_cases a1 : t[i].toNat < 97
        · have hr := hres (by simp [isLow]; omega)
          by_cases a3 : t[i].toNat = 45
          · simp [bs_size, byteAt_bs, h3, e1, e3, a1, a3, (eq_true a4 : (i = 0) = True), hr]
          · simp [bs_size, byteAt_bs, h3, e1, e3, a1, a3, hr]
        · by_cases a2 : 122 < t[i].toNat
          · have hr := hres (by simp [isLow]; omega)
            have a3 : ¬ t[i].toNat = 45 := by omega
            simp [bs_size, byteAt_bs, h3, e1, e2, e3, a1, a2, a3, hr]
          · simp [bs_size, byteAt_bs, h3, e1, e2, e3, a1, a2]
            exact hgood (by simp [isLow]; omega) _ (by simp) (by simp)
      · rw [if_neg a4] at hgood hres
        by_cases a1 : t[i].toNat < 97
        · by_cases a3 : t[i].toNat = 45
          · simp [bs_size, byteAt_bs, h3, e1, e3, a1, a3, a4]
            exact hgood (by simp [isRul, a3]) _ (by simp) (by simp)
          · have hr := hres (by simp [isRul, isLow, a3]; omega)
            simp [bs_size, byteAt_bs, h3, e1, e3, a1, a3, hr]
        · by_cases a2 : 122 < t[i].toNat
          · have a3 : ¬ t[i].toNat = 45 := by omega
            have hr := hres (by simp [isRul, isLow, a3]; omega)
            simp [bs_size, byteAt_bs, h3, e1, e2, e3, a1, a2, a3, hr]
          · simp [bs_size, byteAt_bs, h3, e1, e2, e3, a1, a2]
            exact hgood (by simp [isRul, isLow]; omega) _ (by simp) (by simp)
    · have e : i = t.length := by omega
      subst e
      rw [List.take_length] at hall
      simp [hw, hall]

theorem c_l01Has (l : List Tx) (t : Tx) (hl : l.length < 1099511627776) : CallOK Tryz.prog 116 [.val (.list 1 (l.map tx)), .val (tx t)] (.ret (.val (.bool (decide (t ∈ l)))) []) [] := by
  refine call_val mixed ok116 rfl (fun _ => rfl) ?_
  unfold ir116
  rw [evalC_intro]
  simp [initSt, avPVs, avPV, avBoxesL, avBoxes, num]
  refine loop_EC (X := Nat) (fun i => ⟨envOf [(0, .val (.list 1 (l.map tx))), (1, .val (tx t)), (5, .val (num i))], memOf []⟩) (fun i => i ≤ l.length ∧ t ∉ l.take i) (fun i => l.length - i) 0 (Le.mk _ _ ?_ ?_) ?_ ?_
  · simp [upd, num]
  · simp
  · simp
  · rintro i ⟨hi, hne⟩
    simp [num]
    refine iteP_intro (fun h1 => ?_) (fun h1 => ?_)
    · have e1 : (l.map tx)[i]?.getD .nilptr = tx l[i] := by simp [List.getElem?_eq_getElem h1]
      simp [num, h1, e1, tx, bs_inj]
      by_cases hu : l[i] = t
      · have : t ∈ l := by rw [← hu]; exact List.getElem_mem h1
        simp [hu, this]
      · simp [hu]
        refine LoopNext.mk (i + 1) ⟨by omega, ?_⟩ (by omega) (Le.mk _ _ ?_ ?_)
        · rw [List.take_add_one, List.getElem?_eq_getElem h1, List.mem_append]
          rintro (e | e)
          · exact hne e
          · exact hu (by simpa using e : t = l[i]).symm
        · simp [num, tx]; exact wrap_i64 (by omega) (by omega)
        · simp
    · have e : i = l.length := by omega
      subst e
      rw [List.take_length] at hne
      simp [hne]

end Go.Proofs
end

/- What the spec's look at policies comes to. -/
section
set_option maxRecDepth 100000
set_option linter.unusedVariables false
set_option linter.unusedSectionVars false
set_option linter.unusedSimpArgs false
namespace Go.Proofs
open Go.PW Go.KP
attribute [local simp] RV.cells RV.one PV.cells PV.solid PV.one vals? allVal mkAgg setAt RV.ofCells elems PV.killL
variable [GF]

structure MK (st : St) (rules : List LRule) (rt : Tx) (acc : List Tx) : Prop where
  e0 : st.env 0 = .val (.list 2 (rules.map rvRule))
  e2 : st.env 2 = .ptr 2 0
  e3 : st.env 3 = .ptr 3 0
  m2 : st.mem 2 = .box [.val (tx []), .emp 1, .emp 2]
  m3 : st.mem 3 = .box [.val (tx rt), .own 9, .val (.list 2 (rules.map rvRule))]
  m9 : st.mem 9 = .row 9 1 (acc.map tx)

structure OKS (st : St) (p : LPolicy) (i : Nat) : Prop where
  e1 : st.env 1 = .ptr 1 0
  e3 : st.env 3 = .val (num i)
  m1 : st.mem 1 = .box [.val (tx p.reportTo), .val (.list 1 (p.uris.map tx)), .val (.list 2 (p.rules.map rvRule))]

end Go.Proofs
end
