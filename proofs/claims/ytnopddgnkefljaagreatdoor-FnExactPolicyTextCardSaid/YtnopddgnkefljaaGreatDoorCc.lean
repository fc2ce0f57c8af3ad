/- Cc: merged out of KSl. -/
import Derived.Test.YtnopddgnkefljaaGreatDoorCa
import Derived.Test.YtnopddgnkefljaaGreatDoorAc
import Derived.Test.YtnopddgnkefljaaGreatDoorBb

/- What the law's copies, sizes and comparisons of policies come to. MADE BY PROGRAM (gen_types.py). -/
section
set_option maxRecDepth 100000
set_option linter.unusedVariables false
set_option linter.unusedSectionVars false
set_option linter.unusedSimpArgs false
namespace Go.Proofs
open Go.PW Go.KP
attribute [local simp] RV.cells RV.one PV.cells PV.solid PV.one vals? allVal mkAgg setAt RV.ofCells elems PV.killL
variable [GF]

theorem g_szStringS (l : List Tx) (left : Int) (h0 : 0 ≤ left) (h1 : left ≤ 1048576) (hx : bdS 9223372036854775807 (fun t => t.length ≤ 9223372036854775807) l) : CallOK Tryz.prog 62 [.val (.list 1 (l.map tx)), .val (num left)] (.ret (.val (num (cut left (zS List.length l)))) []) [] := by
  refine call_val mixed ok62 rfl (fun _ => rfl) ?_
  unfold ir62
  rw [evalC_intro]
  have hl : l.length ≤ 9223372036854775807 := hx.1
  have hw : IntKind.i64.wrap (left - (l.length : Int)) = left - l.length := wrap_i64 (by omega) (by omega)
  have hzs : zS List.length l = l.length + lsum List.length l := rfl
  by_cases h : left - (l.length : Int) < 0
  · rw [cut_neg (by omega)]
    simp [initSt, avPVs, avPV, avBoxesL, avBoxes, num, hw, h]
  · simp [initSt, avPVs, avPV, avBoxesL, avBoxes, num, hw, h]
    refine loop_EC (X := Nat) (fun i => ⟨envOf [(0, .val (.list 1 (l.map tx))), (1, .val (num (left - l.length - (lsum List.length (l.take i) : Nat)))), (5, .val (num i))], memOf []⟩) (fun i => i ≤ l.length ∧ 0 ≤ left - l.length - (lsum List.length (l.take i) : Nat)) (fun i => l.length - i) 0 (Le.mk _ _ ?_ ?_) ?_ ?_
    · simp [upd, num, lsum, PV.kill]
    · simp
    · simp [lsum]; omega
    · rintro i ⟨hi, hg⟩
      simp [num]
      refine iteP_intro (fun h2 => ?_) (fun h2 => ?_)
      · have e1 : (l.map tx)[i]?.getD .nilptr = tx l[i] := by simp [List.getElem?_eq_getElem h2]
        have hsn : lsum List.length (l.take (i + 1)) = lsum List.length (l.take i) + List.length l[i] := lsum_take _ h2
        have hle := lsum_le (f := List.length) l (i + 1)
        have hxi : l[i].length ≤ 9223372036854775807 := hx.2 _ (List.getElem_mem h2)
        have hw2 : IntKind.i64.wrap (left - (l.length : Int) - (lsum List.length (l.take i) : Int) - (l[i].length : Int)) = left - (l.length : Int) - (lsum List.length (l.take i) : Int) - (l[i].length : Int) := wrap_i64 (by omega) (by omega)
        by_cases h3 : left - (l.length : Int) - (lsum List.length (l.take i) : Int) - (l[i].length : Int) < 0
        · rw [cut_neg (by omega)]
          simp [num, h2, e1, tx, bs_size, hw2, h3]
        · simp [num, h2, e1, tx, bs_size, hw2, h3]
          refine LoopNext.mk (i + 1) ⟨by omega, by omega⟩ (by omega) (Le.mk _ _ ?_ ?_)
          · simp [num]
            exact ⟨by omega, wrap_i64 (by omega) (by omega)⟩
          · simp
      · have e1 : i = l.length := by omega
        subst e1
        rw [List.take_length] at *
        rw [cut_pos (by omega)]
        simp [num]
        omega

theorem g_toStringS (l : List Tx) (hx : bdS 1048576 (fun t => t.length ≤ 1048576) l) : CallOK Tryz.prog 66 [.val (.list 1 (l.map tx))] (.ret (.val (.list 1 (l.map tx))) []) [] := by
  refine call_val mixed ok66 rfl (fun _ => rfl) ?_
  unfold ir66
  rw [evalC_intro]
  have hl : l.length ≤ 1048576 := hx.1
  simp [initSt, avPVs, avPV, avBoxesL, avBoxes, num, vals?]
  refine ⟨by omega, by omega, ?_⟩
  refine loop_EC (X := Nat) (fun i => ⟨envOf [(0, .val (.list 1 (l.map tx))), (3, .own 7), (4, .val (num i))], memOf [(7, .row 9 1 (upTo tx (.str (bs [])) l i))]⟩) (fun i => i ≤ l.length) (fun i => l.length - i) 0 (Le.mk _ _ ?_ ?_) ?_ ?_
  · simp [upd, num, PV.kill]
  · simp [upd, num, bs, upTo_zero]
  · simp
  · intro i hi
    have hlen := upTo_len tx (.str (bs [])) l i hi
    simp [num, vals?]
    refine iteP_intro (fun h1 => ?_) (fun h1 => ?_)
    · have e1 : (l.map tx)[i]?.getD .nilptr = tx l[i] := by simp [List.getElem?_eq_getElem h1]
      have e2 := upTo_at tx (.str (bs [])) l i h1
      have e3 := upTo_set tx (.str (bs [])) l i h1
      have e4 : (upTo tx (.str (bs [])) l i)[i]'(by omega) = (.str (bs [])) := by
        have h9 := e2
        rw [List.getElem?_eq_getElem (show i < (upTo tx (.str (bs [])) l i).length by omega)] at h9
        exact h9
      simp [num, h1, e1, tx, hlen, vals?]
      refine LoopNext.mk (i + 1) (by omega) (by omega) (Le.mk _ _ ?_ ?_)
      · simp [num]; exact wrap_i64 (by omega) (by omega)
      · rw [← e3]
        simp [num, tx, e4]
    · have e1 : i = l.length := by omega
      subst e1
      simp [num, upTo_all, frzOf, PV.pl]

theorem g_eqStringS (l : List Tx) (hx : bdS 1048576 (fun t => t.length ≤ 1048576) l) : CallOK Tryz.prog 48 [.val (.list 1 (l.map tx)), .val (.list 1 (l.map tx))] (.ret (.val (.bool true)) []) [] := by
  refine call_val mixed ok48 rfl (fun _ => rfl) ?_
  unfold ir48
  rw [evalC_intro]
  have hl : l.length ≤ 1048576 := hx.1
  simp [initSt, avPVs, avPV, avBoxesL, avBoxes, num]
  refine loop_EC (X := Nat) (fun i => ⟨envOf [(0, .val (.list 1 (l.map tx))), (1, .val (.list 1 (l.map tx))), (5, .val (num i))], memOf []⟩) (fun i => i ≤ l.length) (fun i => l.length - i) 0 (Le.mk _ _ ?_ ?_) ?_ ?_
  · simp [upd, num, PV.kill]
  · simp
  · simp
  · intro i hi
    simp [num]
    refine iteP_intro (fun h1 => ?_) (fun h1 => ?_)
    · have e1 : (l.map tx)[i]?.getD .nilptr = tx l[i] := by simp [List.getElem?_eq_getElem h1]
      simp [num, h1, e1, tx]
      refine LoopNext.mk (i + 1) (by omega) (by omega) (Le.mk _ _ ?_ ?_)
      · simp [num]; exact wrap_i64 (by omega) (by omega)
      · simp
    · simp

theorem g_szRule (x : LRule) (left : Int) (h0 : 0 ≤ left) (h1 : left ≤ 1048576) (hx : bdRule 9223372036854775807 x) : CallOK Tryz.prog 105 [.val (rvRule x), .val (num left)] (.ret (.val (num (cut left (zRule x)))) []) [] := by
  refine call_val mixed ok105 rfl (fun _ => rfl) ?_
  unfold ir105
  rw [evalC_intro]
  unfold bdRule at hx
  obtain ⟨b0, b1⟩ := hx
  unfold zRule
  have w0 : IntKind.i64.wrap (left - ((x.name.length : Nat) : Int)) = left - ((x.name.length : Nat) : Int) := wrap_i64 (by omega) (by omega)
  by_cases k0 : left - ((x.name.length : Nat) : Int) < 0
  · rw [cut_neg (by omega)]
    simp [initSt, avPVs, avPV, avBoxesL, avBoxes, rvRule, tx, num, bs_size, allVal, w0, k0]
  · simp [initSt, avPVs, avPV, avBoxesL, avBoxes, rvRule, tx, num, bs_size, allVal, w0, k0]
    refine callS_val rfl rfl (.inl rfl) (g_szStringS x.words (left - (x.name.length : Nat)) (by omega) (by omega) b1) ?_
    by_cases k1 : (left - (x.name.length : Nat)) - ((zS List.length x.words : Nat) : Int) < 0
    · first | rw [cut_neg (by omega), cut_neg (by omega)] | rw [cut_neg (by omega)]
      simp [rvRule, tx, num, bs_size, allVal]
    · first | rw [cut_pos (by omega), cut_pos (by omega)] | rw [cut_pos (by omega)]
      simp [rvRule, tx, num, bs_size, allVal, k0, k1]
      try omega

theorem g_toRule (x : LRule) (hx : bdRule 1048576 x) : CallOK Tryz.prog 110 [.val (rvRule x)] (.ret (.val (rvRule x)) []) [] := by
  refine call_val mixed ok110 rfl (fun _ => rfl) ?_
  unfold ir110
  rw [evalC_intro]
  unfold bdRule at hx
  obtain ⟨b0, b1⟩ := hx
  simp [initSt, avPVs, avPV, avBoxesL, avBoxes, rvRule, tx, num, allVal]
  refine callS_val rfl rfl (.inl rfl) (g_toStringS x.words b1) ?_
  simp [rvRule, tx, num, allVal]
  refine (resP_c (id := 2) (n := 2) (rs := [tx x.name, .list 1 (x.words.map tx)]) ?_ ?_ rfl (by omega)).trans ?_
  · simp
  · simp [tx, num]
  · simp [rvRule, tx, num, allVal]

theorem g_eqRule (x : LRule) (hx : bdRule 1048576 x) : CallOK Tryz.prog 115 [.val (rvRule x), .val (rvRule x)] (.ret (.val (.bool true)) []) [] := by
  refine call_val mixed ok115 rfl (fun _ => rfl) ?_
  unfold ir115
  rw [evalC_intro]
  unfold bdRule at hx
  obtain ⟨b0, b1⟩ := hx
  simp [initSt, avPVs, avPV, avBoxesL, avBoxes, rvRule, tx, num, allVal]
  refine callS_val rfl rfl (.inl rfl) (g_eqStringS x.words b1) ?_
  simp [rvRule, tx, num, allVal]

theorem g_szRuleS (l : List LRule) (left : Int) (h0 : 0 ≤ left) (h1 : left ≤ 1048576) (hx : bdS 9223372036854775807 (bdRule 9223372036854775807) l) : CallOK Tryz.prog 63 [.val (.list 2 (l.map rvRule)), .val (num left)] (.ret (.val (num (cut left (zS zRule l)))) []) [] := by
  refine call_val mixed ok63 rfl (fun _ => rfl) ?_
  unfold ir63
  rw [evalC_intro]
  have hl : l.length ≤ 9223372036854775807 := hx.1
  have hw : IntKind.i64.wrap (left - (l.length : Int)) = left - l.length := wrap_i64 (by omega) (by omega)
  have hzs : zS zRule l = l.length + lsum zRule l := rfl
  by_cases h : left - (l.length : Int) < 0
  · rw [cut_neg (by omega)]
    simp [initSt, avPVs, avPV, avBoxesL, avBoxes, num, hw, h]
  · simp [initSt, avPVs, avPV, avBoxesL, avBoxes, num, hw, h]
    refine loop_EC (X := Nat) (fun i => ⟨envOf [(0, .val (.list 2 (l.map rvRule))), (1, .val (num (left - l.length - (lsum zRule (l.take i) : Nat)))), (5, .val (num i))], memOf []⟩) (fun i => i ≤ l.length ∧ 0 ≤ left - l.length - (lsum zRule (l.take i) : Nat)) (fun i => l.length - i) 0 (Le.mk _ _ ?_ ?_) ?_ ?_
    · simp [upd, num, lsum, PV.kill]
    · simp
    · simp [lsum]; omega
    · rintro i ⟨hi, hg⟩
      simp [num]
      refine iteP_intro (fun h2 => ?_) (fun h2 => ?_)
      · have e1 : (l.map rvRule)[i]?.getD .nilptr = rvRule l[i] := by simp [List.getElem?_eq_getElem h2]
        have hsn : lsum zRule (l.take (i + 1)) = lsum zRule (l.take i) + zRule l[i] := lsum_take _ h2
        have hle := lsum_le (f := zRule) l (i + 1)
        simp [num, h2, e1, rvRule, tx]
        refine callS_val rfl rfl (.inl rfl) (g_szRule l[i] (left - l.length - (lsum zRule (l.take i) : Nat)) (by omega) (by omega) (hx.2 _ (List.getElem_mem h2))) ?_
        by_cases h3 : left - (l.length : Int) - (lsum zRule (l.take i) : Int) - (zRule l[i] : Int) < 0
        · have c1 : cut (left - l.length - (lsum zRule (l.take i) : Nat)) (zRule l[i]) = -1 := cut_neg (by omega)
          have c2 : cut left (zS zRule l) = -1 := cut_neg (by omega)
          rw [c1, c2]
          simp [num]
        · have c1 : cut (left - l.length - (lsum zRule (l.take i) : Nat)) (zRule l[i]) = left - l.length - (lsum zRule (l.take i) : Nat) - (zRule l[i] : Nat) := cut_pos (by omega)
          rw [c1]
          simp [num, h3]
          refine LoopNext.mk (i + 1) ⟨by omega, by omega⟩ (by omega) (Le.mk _ _ ?_ ?_)
          · simp [num]
            exact ⟨by omega, wrap_i64 (by omega) (by omega)⟩
          · simp
      · have e1 : i = l.length := by omega
        subst e1
        rw [List.take_length] at *
        rw [cut_pos (by omega)]
        simp [num]
        omega

theorem g_toRuleS (l : List LRule) (hx : bdS 1048576 (bdRule 1048576) l) : CallOK Tryz.prog 67 [.val (.list 2 (l.map rvRule))] (.ret (.val (.list 2 (l.map rvRule))) []) [] := by
  refine call_val mixed ok67 rfl (fun _ => rfl) ?_
  unfold ir67
  rw [evalC_intro]
  have hl : l.length ≤ 1048576 := hx.1
  simp [initSt, avPVs, avPV, avBoxesL, avBoxes, num, vals?]
  refine ⟨by omega, by omega, ?_⟩
  refine loop_EC (X := Nat) (fun i => ⟨envOf [(0, .val (.list 2 (l.map rvRule))), (3, .own 7), (4, .val (num i))], memOf [(7, .row 99 2 (upTo rvRule (.agg [.str (bs []), .list 1 []]) l i))]⟩) (fun i => i ≤ l.length) (fun i => l.length - i) 0 (Le.mk _ _ ?_ ?_) ?_ ?_
  · simp [upd, num, PV.kill]
  · simp [upd, num, bs, upTo_zero]
  · simp
  · intro i hi
    have hlen := upTo_len rvRule (.agg [.str (bs []), .list 1 []]) l i hi
    simp [num, vals?]
    refine iteP_intro (fun h1 => ?_) (fun h1 => ?_)
    · have e1 : (l.map rvRule)[i]?.getD .nilptr = rvRule l[i] := by simp [List.getElem?_eq_getElem h1]
      have e2 := upTo_at rvRule (.agg [.str (bs []), .list 1 []]) l i h1
      have e3 := upTo_set rvRule (.agg [.str (bs []), .list 1 []]) l i h1
      have e4 : (upTo rvRule (.agg [.str (bs []), .list 1 []]) l i)[i]'(by omega) = (.agg [.str (bs []), .list 1 []]) := by
        have h9 := e2
        rw [List.getElem?_eq_getElem (show i < (upTo rvRule (.agg [.str (bs []), .list 1 []]) l i).length by omega)] at h9
        exact h9
      simp [num, h1, e1, rvRule, tx, hlen, vals?]
      refine callS_val rfl rfl (.inl rfl) (g_toRule l[i] (hx.2 _ (List.getElem_mem h1))) ?_
      simp [num, h1, e1, e2, rvRule, tx, hlen, vals?]
      refine LoopNext.mk (i + 1) (by omega) (by omega) (Le.mk _ _ ?_ ?_)
      · simp [num]; exact wrap_i64 (by omega) (by omega)
      · rw [← e3]
        simp [rvRule, num, tx, e4]
    · have e1 : i = l.length := by omega
      subst e1
      simp [num, upTo_all, frzOf, PV.pl]

theorem g_eqRuleS (l : List LRule) (hx : bdS 1048576 (bdRule 1048576) l) : CallOK Tryz.prog 69 [.val (.list 2 (l.map rvRule)), .val (.list 2 (l.map rvRule))] (.ret (.val (.bool true)) []) [] := by
  refine call_val mixed ok69 rfl (fun _ => rfl) ?_
  unfold ir69
  rw [evalC_intro]
  have hl : l.length ≤ 1048576 := hx.1
  simp [initSt, avPVs, avPV, avBoxesL, avBoxes, num]
  refine loop_EC (X := Nat) (fun i => ⟨envOf [(0, .val (.list 2 (l.map rvRule))), (1, .val (.list 2 (l.map rvRule))), (5, .val (num i))], memOf []⟩) (fun i => i ≤ l.length) (fun i => l.length - i) 0 (Le.mk _ _ ?_ ?_) ?_ ?_
  · simp [upd, num, PV.kill]
  · simp
  · simp
  · intro i hi
    simp [num]
    refine iteP_intro (fun h1 => ?_) (fun h1 => ?_)
    · have e1 : (l.map rvRule)[i]?.getD .nilptr = rvRule l[i] := by simp [List.getElem?_eq_getElem h1]
      simp [num, h1, e1, rvRule, tx]
      refine callS_val rfl rfl (.inl rfl) (g_eqRule l[i] (hx.2 _ (List.getElem_mem h1))) ?_
      simp
      refine LoopNext.mk (i + 1) (by omega) (by omega) (Le.mk _ _ ?_ ?_)
      · simp [num]; exact wrap_i64 (by omega) (by omega)
      · simp
    · simp

theorem g_szPolicy (x : LPolicy) (left : Int) (h0 : 0 ≤ left) (h1 : left ≤ 1048576) (hx : bdPolicy 9223372036854775807 x) : CallOK Tryz.prog 30 [.val (rvPolicy x), .val (num left)] (.ret (.val (num (cut left (zPolicy x)))) []) [] := by
  refine call_val mixed ok30 rfl (fun _ => rfl) ?_
  unfold ir30
  rw [evalC_intro]
  unfold bdPolicy at hx
  obtain ⟨b0, b1, b2⟩ := hx
  unfold zPolicy
  have w0 : IntKind.i64.wrap (left - ((x.reportTo.length : Nat) : Int)) = left - ((x.reportTo.length : Nat) : Int) := wrap_i64 (by omega) (by omega)
  by_cases k0 : left - ((x.reportTo.length : Nat) : Int) < 0
  · rw [cut_neg (by omega)]
    simp [initSt, avPVs, avPV, avBoxesL, avBoxes, rvPolicy, tx, num, bs_size, allVal, w0, k0]
  · simp [initSt, avPVs, avPV, avBoxesL, avBoxes, rvPolicy, tx, num, bs_size, allVal, w0, k0]
    refine callS_val rfl rfl (.inl rfl) (g_szStringS x.uris (left - (x.reportTo.length : Nat)) (by omega) (by omega) b1) ?_
    by_cases k1 : (left - (x.reportTo.length : Nat)) - ((zS List.length x.uris : Nat) : Int) < 0
    · first | rw [cut_neg (by omega), cut_neg (by omega)] | rw [cut_neg (by omega)]
      simp [rvPolicy, tx, num, bs_size, allVal]
    · rw [cut_pos (show ¬ (left - (x.reportTo.length : Nat)) - ((zS List.length x.uris : Nat) : Int) < 0 by omega)]
      simp [rvPolicy, tx, num, bs_size, allVal, k0, k1]
      refine callS_val rfl rfl (.inl rfl) (g_szRuleS x.rules (left - (x.reportTo.length : Nat) - (zS List.length x.uris : Nat)) (by omega) (by omega) b2) ?_
      by_cases k2 : (left - (x.reportTo.length : Nat) - (zS List.length x.uris : Nat)) - ((zS zRule x.rules : Nat) : Int) < 0
      · first | rw [cut_neg (by omega), cut_neg (by omega)] | rw [cut_neg (by omega)]
        simp [rvPolicy, tx, num, bs_size, allVal]
      · first | rw [cut_pos (by omega), cut_pos (by omega)] | rw [cut_pos (by omega)]
        simp [rvPolicy, tx, num, bs_size, allVal, k0, k1, k2]
        try omega

theorem g_toPolicy (x : LPolicy) (hx : bdPolicy 1048576 x) : CallOK Tryz.prog 32 [.val (rvPolicy x)] (.ret (.val (rvPolicy x)) []) [] := by
  refine call_val mixed ok32 rfl (fun _ => rfl) ?_
  unfold ir32
  rw [evalC_intro]
  unfold bdPolicy at hx
  obtain ⟨b0, b1, b2⟩ := hx
  simp [initSt, avPVs, avPV, avBoxesL, avBoxes, rvPolicy, tx, num, allVal]
  refine callS_val rfl rfl (.inl rfl) (g_toStringS x.uris b1) ?_
  simp [rvPolicy, tx, num, allVal]
  refine callS_val rfl rfl (.inl rfl) (g_toRuleS x.rules b2) ?_
  simp [rvPolicy, tx, num, allVal]
  refine (resP_c (id := 2) (n := 3) (rs := [tx x.reportTo, .list 1 (x.uris.map tx), .list 2 (x.rules.map rvRule)]) ?_ ?_ rfl (by omega)).trans ?_
  · simp
  · simp [tx, num]
  · simp [rvPolicy, tx, num, allVal]

theorem g_eqPolicy (x : LPolicy) (hx : bdPolicy 1048576 x) : CallOK Tryz.prog 34 [.val (rvPolicy x), .val (rvPolicy x)] (.ret (.val (.bool true)) []) [] := by
  refine call_val mixed ok34 rfl (fun _ => rfl) ?_
  unfold ir34
  rw [evalC_intro]
  unfold bdPolicy at hx
  obtain ⟨b0, b1, b2⟩ := hx
  simp [initSt, avPVs, avPV, avBoxesL, avBoxes, rvPolicy, tx, num, allVal]
  refine callS_val rfl rfl (.inl rfl) (g_eqStringS x.uris b1) ?_
  simp [rvPolicy, tx, num, allVal]
  refine callS_val rfl rfl (.inl rfl) (g_eqRuleS x.rules b2) ?_
  simp [rvPolicy, tx, num, allVal]

end Go.Proofs
end
