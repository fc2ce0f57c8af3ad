/- Ee: merged out of KIi, KIq, KIw. -/
import Derived.Test.YtnopddgnkefljaaGreatDoorEb
import Derived.Test.YtnopddgnkefljaaGreatDoorCa
import Derived.Test.YtnopddgnkefljaaGreatDoorAc
import Derived.Test.YtnopddgnkefljaaGreatDoorBa
import Derived.Test.YtnopddgnkefljaaGreatDoorEa

/- What the program's look at peers comes to. -/
section
set_option maxRecDepth 100000
set_option linter.unusedVariables false
set_option linter.unusedSectionVars false
set_option linter.unusedSimpArgs false
namespace Go.Proofs
open Go.PW Go.KP
attribute [local simp] RV.cells RV.one PV.cells PV.solid PV.one vals? allVal mkAgg setAt RV.ofCells elems PV.killL
variable [GH]

theorem any_url (l : List LTarget) (url : Tx) : (l.any fun x => decide (x.url = url)) = decide (url ∈ l.map fun t => t.url) := by
  rw [Bool.eq_iff_iff]
  simp only [List.any_eq_true, decide_eq_true_eq, List.mem_map]

theorem i_areUnlike (l : List LTarget) (hl : l.length < 1099511627776) : CallOK Tryz.prog 88 [.val (.list 3 (l.map rvTarget))] (.ret (.val (.bool (tunlike l))) []) [] := by
  refine call_val mixed ok88 rfl (fun _ => rfl) ?_
  unfold ir88
  rw [evalC_intro]
  simp [initSt, avPVs, avPV, avBoxesL, avBoxes]
  refine loop_EC (X := Nat) (fun i => ⟨envOf [(0, .val (.list 3 (l.map rvTarget))), (5, .val (.list 3 (l.map rvTarget))), (6, .val (num l.length)), (7, .val (num i))], memOf []⟩) (fun i => i ≤ l.length ∧ tunlike (l.take i) = true) (fun i => l.length - i) 0 (Le.mk _ _ ?_ ?_) ?_ ?_
  · simp [upd, num]
  · simp
  · simp [tunlike, lunlike]
  · rintro i ⟨hi, hinv⟩
    simp [num]
    refine iteP_intro (fun h1 => ?_) (fun h1 => ?_)
    · have e1 := targets_at h1
      simp [num, h1, e1, rvTarget, tx, show i ≤ l.length by omega]
      have hh := i_hasUrl (l.take i) l[i].url (by simp; omega)
      rw [any_url, List.map_take] at hh
      refine callS_val rfl rfl (.inl rfl) hh ?_
      have ht := tunlike_take l i h1
      by_cases hm : l[i].url ∈ (l.take i).map fun t => t.url
      · rw [decide_eq_true hm]
        have : tunlike l = false := tunlike_false l (i + 1) (by rw [ht, hinv, decide_eq_false (fun h => h hm)]; rfl)
        rw [this]
        simp
      · rw [decide_eq_false hm]
        simp
        refine LoopNext.mk (i + 1) ⟨by omega, ?_⟩ (by omega) (Le.mk _ _ ?_ ?_)
        · rw [ht, hinv, decide_eq_true hm]; rfl
        · simp [num]; exact wrap_i64 (by omega) (by omega)
        · simp
    · have e : i = l.length := by omega
      subst e
      rw [List.take_length] at hinv
      rw [hinv]
      simp

end Go.Proofs
end

/- What slices.* come to at some element types. MADE BY PROGRAM (gen_slices.py). -/
section
set_option maxRecDepth 100000
set_option linter.unusedVariables false
set_option linter.unusedSectionVars false
set_option linter.unusedSimpArgs false
namespace Go.Proofs
open Go.PW Go.KP
attribute [local simp] RV.cells RV.one PV.cells PV.solid PV.one vals? allVal mkAgg setAt RV.ofCells elems PV.killL
variable [GF]

theorem i_IndexFunc_Target (l : List LTarget) (g : Nat) (p : LTarget → Bool) (hl : l.length < 1099511627776) (hg : fnB Tryz.prog g = true)
    (hp : ∀ x ∈ l, CallOK Tryz.prog g [.val (rvTarget x)] (.ret (.val (.bool (p x))) []) []) :
    CallOK Tryz.prog 128 [.val (.list 3 (l.map rvTarget)), .fn g []] (.ret (.val (num (lidx l p))) []) [] := by
  refine call_val mixed ok128 rfl (fun _ => rfl) ?_
  unfold ir128
  rw [evalC_intro]
  simp [initSt, avPVs, avPV, avBoxesL, avBoxes, avPV, avPVs]
  refine loop_EC (X := Nat) (fun i => ⟨envOf [(0, .val (.list 3 (l.map rvTarget))), (1, .fn g []), (7, .val (num l.length)), (8, .val (num i))], memOf []⟩) (fun i => i ≤ l.length ∧ ∀ k (hk : k < i) (hk' : k < l.length), p l[k] = false) (fun i => l.length - i) 0 (Le.mk _ _ ?_ ?_) ?_ ?_
  · simp [upd, num]
  · simp
  · simp
  · rintro i ⟨hi, hne⟩
    simp [num]
    refine iteP_intro (fun h1 => ?_) (fun h1 => ?_)
    · have e1 : (l.map rvTarget)[i]?.getD .nilptr = rvTarget l[i] := by simp [List.getElem?_eq_getElem h1]
      simp [num, h1, e1, rvTarget, tx, num, hg]
      refine callS_val rfl rfl (.inl rfl) (hp l[i] (List.getElem_mem h1)) ?_
      cases hpi : p l[i] with
      | true =>
        simp
        rw [lidx_hit h1 hpi (fun k hk => hne k hk (by omega))]; rfl
      | false =>
        simp
        refine LoopNext.mk (i + 1) ⟨by omega, fun k hk hk' => ?_⟩ (by omega) (Le.mk _ _ ?_ ?_)
        · by_cases e : k = i
          · subst e; exact hpi
          · exact hne k (by omega) hk'
        · simp [num]; exact wrap_i64 (by omega) (by omega)
        · simp
    · have e : i = l.length := by omega
      subst e
      simp [num]
      rw [lidx_none (fun k hk => hne k hk hk)]
theorem i_ContainsFunc_Target (l : List LTarget) (g : Nat) (p : LTarget → Bool) (hl : l.length < 1099511627776) (hg : fnB Tryz.prog g = true)
    (hp : ∀ x ∈ l, CallOK Tryz.prog g [.val (rvTarget x)] (.ret (.val (.bool (p x))) []) []) :
    CallOK Tryz.prog 89 [.val (.list 3 (l.map rvTarget)), .fn g []] (.ret (.val (.bool (l.any p))) []) [] := by
  refine call_val mixed ok89 rfl (fun _ => rfl) ?_
  unfold ir89
  rw [evalC_intro]
  simp [initSt, avPVs, avPV, avBoxesL, avBoxes, avPV, avPVs]
  refine callS_val rfl rfl (.inl rfl) (i_IndexFunc_Target l g p hl hg hp) ?_
  simp [num]
  exact lidx_ge l p

end Go.Proofs
end

/- What the program's look at groups comes to. -/
section
set_option maxRecDepth 100000
set_option linter.unusedVariables false
set_option linter.unusedSectionVars false
set_option linter.unusedSimpArgs false
namespace Go.Proofs
open Go.PW Go.KP
attribute [local simp] RV.cells RV.one PV.cells PV.solid PV.one vals? allVal mkAgg setAt RV.ofCells elems PV.killL
variable [GH]

theorem i_GroupOK1 (t : LTarget) (ht : t.url.length < 1048577) : CallOK Tryz.prog 90 [.val (rvTarget t)] (.ret (.val (.bool (!ltargetOK t))) []) [] := by
  refine call_val mixed ok90 rfl (fun _ => rfl) ?_
  unfold ir90
  rw [evalC_intro]
  have h := i_targetOK t ht
  simp [initSt, avPVs, avPV, avBoxesL, avBoxes, rvTarget, tx, num]
  refine callS_val rfl rfl (.inl rfl) h ?_
  simp

theorem groupOK_core (g : LGroup) (b1 b2 b3 b4 b5 : Bool) (hW : CallOK Tryz.prog 87 [.val (tx g.name)] (.ret (.val (.bool b1)) []) []) (hA : CallOK Tryz.prog 80 [.val (num g.age), .val (num 1), .val (num 100)] (.ret (.val (.bool b2)) []) [])
    (hT : CallOK Tryz.prog 80 [.val (num g.targets.length), .val (num 1), .val (num 4)] (.ret (.val (.bool b3)) []) []) (hU : CallOK Tryz.prog 88 [.val (.list 3 (g.targets.map rvTarget))] (.ret (.val (.bool b4)) []) [])
    (hC : CallOK Tryz.prog 89 [.val (.list 3 (g.targets.map rvTarget)), .fn 90 []] (.ret (.val (.bool b5)) []) []) :
    CallOK Tryz.prog 45 [.val (rvGroup g)] (.ret (.val (.bool (b1 && b2 && b3 && b4 && !b5))) []) [] := by
  refine call_val mixed ok45 rfl (fun _ => rfl) ?_
  unfold ir45
  rw [evalC_intro]
  simp [initSt, avPVs, avPV, avBoxesL, avBoxes, rvGroup, tx, num]
  refine callS_val rfl rfl (.inl rfl) hW ?_
  cases b1 with
  | false => simp
  | true =>
    simp [num]
    refine callS_val rfl rfl (.inl rfl) hA ?_
    cases b2 with
    | false => simp
    | true =>
      simp [num]
      refine callS_val rfl rfl (.inl rfl) hT ?_
      cases b3 with
      | false => simp
      | true =>
        simp [num]
        refine callS_val rfl rfl (.inl rfl) hU ?_
        cases b4 with
        | false => simp
        | true =>
          simp [num]
          refine callS_val rfl rfl (.inl rfl) hC ?_
          cases b5 <;> simp

theorem i_GroupOK (g : LGroup) (hb : bdGroup 1048576 g) : CallOK Tryz.prog 45 [.val (rvGroup g)] (.ret (.val (.bool (lgroupOK g))) []) [] := by
  have hnl : g.name.length ≤ 1048576 := hb.1
  have htl : g.targets.length ≤ 1048576 := hb.2.1
  have hC := i_ContainsFunc_Target g.targets 90 (fun t => !ltargetOK t) (by omega) (by kernel_rfl) (fun x hx => i_GroupOK1 x (by have := hb.2.2 x hx; unfold bdTarget at this; omega))
  have h := groupOK_core g _ _ _ _ _ (i_NameOK g.name (by omega)) (i_within g.age 1 100) (i_within g.targets.length 1 4) (i_areUnlike g.targets (by omega)) hC
  have q3 : (1 ≤ g.targets.length ∧ g.targets.length ≤ 4) ↔ ((1 : Int) ≤ g.targets.length ∧ (g.targets.length : Int) ≤ 4) := by omega
  have e : lgroupOK g = (lword g.name && decide (1 ≤ g.age ∧ g.age ≤ 100) && decide ((1 : Int) ≤ g.targets.length ∧ (g.targets.length : Int) ≤ 4) && tunlike g.targets && !(g.targets.any fun t => !ltargetOK t)) := by
    unfold lgroupOK
    rw [decide_eq_decide.2 q3, tunlike_uniq, List.not_any_eq_all_not]
    simp only [Bool.not_not]
    cases lword g.name <;> cases decide (1 ≤ g.age ∧ g.age ≤ 100) <;> cases decide ((1 : Int) ≤ g.targets.length ∧ (g.targets.length : Int) ≤ 4) <;> cases g.targets.all ltargetOK <;> simp
  rw [e]
  exact h
end Go.Proofs
end
