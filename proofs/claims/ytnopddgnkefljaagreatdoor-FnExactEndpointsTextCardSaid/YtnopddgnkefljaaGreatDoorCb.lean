/- Cb: merged out of KSk, KSm, KSw. -/
import Derived.Test.YtnopddgnkefljaaGreatDoorCa
import Derived.Test.YtnopddgnkefljaaGreatDoorAc
import Derived.Test.YtnopddgnkefljaaGreatDoorBb
import Derived.Test.YtnopddgnkefljaaGreatDoorBa

/- What the spec's functions on names, rules and policies come to. -/
section
set_option maxRecDepth 100000
set_option linter.unusedVariables false
set_option linter.unusedSectionVars false
set_option linter.unusedSimpArgs false
namespace Go.Proofs
open Go.PW Go.KP
attribute [local simp] RV.cells RV.one PV.cells PV.solid PV.one vals? allVal mkAgg setAt RV.ofCells elems PV.killL
variable [GF]

end Go.Proofs
end

/- What the spec's look at policies comes to. -/
section
set_option maxRecDepth 100000
set_option linter.unusedVariables false
set_option linter.unusedSectionVars false
set_option linter.unusedSimpArgs false
namespace Go.Proofs
open Go.PW Go.KP
attribute [local simp] RV.cells RV.one PV.cells PV.solid PV.one vals? allVal mkAgg setAt RV.ofCells elems PV.killL
variable [GF]

structure MK (st : St) (rules : List LRule) (rt : Tx) (acc : List Tx) : Prop where
  e0 : st.env 0 = .val (.list 2 (rules.map rvRule))
  e2 : st.env 2 = .ptr 2 0
  e3 : st.env 3 = .ptr 3 0
  m2 : st.mem 2 = .box [.val (tx []), .emp 1, .emp 2]
  m3 : st.mem 3 = .box [.val (tx rt), .own 9, .val (.list 2 (rules.map rvRule))]
  m9 : st.mem 9 = .row 9 1 (acc.map tx)

structure OKS (st : St) (p : LPolicy) (i : Nat) : Prop where
  e1 : st.env 1 = .ptr 1 0
  e3 : st.env 3 = .val (num i)
  m1 : st.mem 1 = .box [.val (tx p.reportTo), .val (.list 1 (p.uris.map tx)), .val (.list 2 (p.rules.map rvRule))]

end Go.Proofs
end

/- What the spec's look at groups comes to. -/
section
set_option maxRecDepth 100000
set_option linter.unusedVariables false
set_option linter.unusedSectionVars false
set_option linter.unusedSimpArgs false
namespace Go.Proofs
open Go.PW Go.KP
attribute [local simp] RV.cells RV.one PV.cells PV.solid PV.one vals? allVal mkAgg setAt RV.ofCells elems PV.killL
variable [GF]

theorem c_l03At (l : List LTarget) (name : Tx) (hl : l.length < 1099511627776) : CallOK Tryz.prog 100 [.val (.list 3 (l.map rvTarget)), .val (tx name)] (.ret (.val (num (lidx l fun r => decide (r.url = name)))) []) [] := by
  refine call_val mixed ok100 rfl (fun _ => rfl) ?_
  unfold ir100
  rw [evalC_intro]
  simp [initSt, avPVs, avPV, avBoxesL, avBoxes, num]
  refine loop_EC (X := Nat) (fun i => ⟨envOf [(0, .val (.list 3 (l.map rvTarget))), (1, .val (tx name)), (5, .val (num i))], memOf []⟩) (fun i => i ≤ l.length ∧ ∀ k (hk : k < i) (hk' : k < l.length), l[k].url ≠ name) (fun i => l.length - i) 0 (Le.mk _ _ ?_ ?_) ?_ ?_
  · simp [upd, num]
  · simp
  · simp
  · rintro i ⟨hi, hne⟩
    simp [num]
    refine iteP_intro (fun h1 => ?_) (fun h1 => ?_)
    · have e1 : (l.map rvTarget)[i]?.getD .nilptr = rvTarget l[i] := by simp [List.getElem?_eq_getElem h1]
      simp [num, h1, e1, rvTarget, tx, bs_inj]
      by_cases hu : l[i].url = name
      · have hh : lidx l (fun r => decide (r.url = name)) = i := lidx_hit h1 (by simp [hu]) (fun k hk => by simp [hne k hk (by omega)])
        simp [hu, hh, num]
      · simp [hu]
        refine LoopNext.mk (i + 1) ⟨by omega, fun k hk hk' => ?_⟩ (by omega) (Le.mk _ _ ?_ ?_)
        · by_cases e : k = i
          · subst e; exact hu
          · exact hne k (by omega) hk'
        · simp [num, tx]; exact wrap_i64 (by omega) (by omega)
        · simp
    · have e : i = l.length := by omega
      have hh : lidx l (fun r => decide (r.url = name)) = -1 := lidx_none (fun k hk => by simp [hne k (by omega) hk])
      simp [hh, num]

theorem lgroupOK_bad (g : LGroup) (i : Nat) (hi : i < g.targets.length) (h : (ltargetOK g.targets[i] && decide ((g.targets[i]).url ∉ (g.targets.map fun r => r.url).take i)) = false) : (g.targets.all ltargetOK && luniq (g.targets.map fun t => t.url)) = false := by
  rw [Bool.and_eq_false_iff] at h ⊢
  rcases h with h | h
  · exact .inl (List.all_eq_false.2 ⟨_, List.getElem_mem hi, by simp [h]⟩)
  · refine .inr (luniq_false _ (i + 1) ?_)
    rw [luniq_take _ i (by simpa using hi)]
    simp only [List.getElem_map]
    rw [h, Bool.and_false]

theorem l03OK_core (g : LGroup) (b1 b2 b3 : Bool) (hb : bdGroup 1048576 g) (hW : CallOK Tryz.prog 98 [.val (tx g.name)] (.ret (.val (.bool b1)) []) []) (hA : CallOK Tryz.prog 71 [.val (.int .i64 g.age), .val (.int .i64 1), .val (.int .i64 100)] (.ret (.val (.bool b2)) []) [])
    (hT : CallOK Tryz.prog 71 [.val (.int .i64 g.targets.length), .val (.int .i64 1), .val (.int .i64 4)] (.ret (.val (.bool b3)) []) []) :
    CallOK Tryz.prog 55 [.val (rvGroup g)] (.ret (.val (.bool (b1 && b2 && b3 && (g.targets.all ltargetOK && luniq (g.targets.map fun t => t.url))))) []) [] := by
  have htl : g.targets.length ≤ 1048576 := hb.2.1
  refine call_val mixed ok55 rfl (fun _ => rfl) ?_
  unfold ir55
  rw [evalC_intro]
  simp [initSt, avPVs, avPV, avBoxesL, avBoxes, rvGroup, tx, num]
  refine callS_val rfl rfl (.inl rfl) hW ?_
  cases b1 with
  | false => simp
  | true =>
    simp [num]
    refine callS_val rfl rfl (.inl rfl) hA ?_
    cases b2 with
    | false => simp
    | true =>
      simp [num]
      refine callS_val rfl rfl (.inl rfl) hT ?_
      cases b3 with
      | false => simp
      | true =>
        simp [num]
        refine loop_EC (X := Nat) (fun i => ⟨envOf [(1, .ptr 1 0), (3, .val (num i))], memOf [(1, .box [.val (tx g.name), .val (num g.age), .val (.list 3 (g.targets.map rvTarget))])]⟩) (fun i => i ≤ g.targets.length ∧ ((g.targets.take i).all ltargetOK && luniq ((g.targets.map fun r => r.url).take i)) = true) (fun i => g.targets.length - i) 0 (Le.mk _ _ ?_ ?_) ?_ ?_
        · simp [upd, num]
        · simp [tx, num]
        · simp [luniq]
        · rintro i ⟨hi, hall⟩
          simp [num]
          refine iteP_intro (fun h1 => ?_) (fun h1 => ?_)
          · have hbr : (g.targets[i]).url.length ≤ 1048576 := hb.2.2 _ (List.getElem_mem h1)
            have hst : (g.targets.take (i + 1)).all ltargetOK = ((g.targets.take i).all ltargetOK && ltargetOK g.targets[i]) := all_take_succ _ _ _ h1
            have hst2 := luniq_take (g.targets.map fun r => r.url) i (by simpa using h1)
            simp only [List.getElem_map] at hst2
            have hbad := lgroupOK_bad g i h1
            have hself := lidx_self (fun r : LTarget => r.url) g.targets i h1
            rw [Bool.and_eq_true] at hall
            rw [hall.1, Bool.true_and] at hst
            rw [hall.2, Bool.true_and] at hst2
            obtain ⟨r, hrk⟩ : ∃ r, g.targets[i] = r := ⟨_, rfl⟩
            rw [hrk] at hbr hst hst2 hbad
            simp only [hrk] at hself
            have hT3 := c_l03Target r (by omega)
            have hAt := c_l03At g.targets r.url (by omega)
            simp [num, h1, hrk, rvTarget, tx]
            refine callX_val rfl rfl (.inl rfl) hT3 ?_
            cases hn : ltargetOK r with
            | false =>
              have hb2 := hbad (by rw [hn]; rfl)
              simp [hb2]
            | true =>
              simp [num, h1, hrk, rvTarget, tx]
              refine callX_val rfl rfl (.inl rfl) hAt ?_
              by_cases hu : r.url ∈ (g.targets.map fun r => r.url).take i
              · have hb2 := hbad (by rw [decide_eq_false (fun h => h hu), Bool.and_false])
                have hne : ¬ (lidx g.targets fun x => decide (x.url = r.url)) = (i : Int) := fun h => hself.1 h hu
                simp [num, hb2, hne]
              · have heq := hself.2 hu
                rw [decide_eq_true hu] at hst2
                simp [num, heq]
                refine LoopNext.mk (i + 1) ⟨by omega, by rw [hst, hst2, hn]; rfl⟩ (by omega) (Le.mk _ _ ?_ ?_)
                · simp [num]; exact wrap_i64 (by omega) (by omega)
                · simp [tx, num]
          · have e : i = g.targets.length := by omega
            subst e
            rw [List.take_length, List.take_of_length_le (by simp)] at hall
            simp [hall]

theorem c_l03OK (g : LGroup) (hb : bdGroup 1048576 g) : CallOK Tryz.prog 55 [.val (rvGroup g)] (.ret (.val (.bool (lgroupOK g))) []) [] := by
  have hnl : g.name.length ≤ 1048576 := hb.1
  have h := l03OK_core g _ _ _ hb (c_l00Word g.name (by omega)) (c_l01In .i64 g.age 1 100) (c_l01In .i64 g.targets.length 1 4)
  have q3 : (1 ≤ g.targets.length ∧ g.targets.length ≤ 4) ↔ ((1 : Int) ≤ g.targets.length ∧ (g.targets.length : Int) ≤ 4) := by omega
  unfold lgroupOK
  rw [decide_eq_decide.2 q3]
  exact h
end Go.Proofs
end
