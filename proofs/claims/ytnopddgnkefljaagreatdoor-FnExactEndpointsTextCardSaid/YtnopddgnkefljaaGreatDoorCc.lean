/- Cc: merged out of KSl, KSp. -/
import Derived.Test.YtnopddgnkefljaaGreatDoorCa
import Derived.Test.YtnopddgnkefljaaGreatDoorAc
import Derived.Test.YtnopddgnkefljaaGreatDoorBb

/- What the law's copies, sizes and comparisons of policies come to. MADE BY PROGRAM (gen_types.py). -/
section
set_option maxRecDepth 100000
set_option linter.unusedVariables false
set_option linter.unusedSectionVars false
set_option linter.unusedSimpArgs false
namespace Go.Proofs
open Go.PW Go.KP
attribute [local simp] RV.cells RV.one PV.cells PV.solid PV.one vals? allVal mkAgg setAt RV.ofCells elems PV.killL
variable [GF]

end Go.Proofs
end

/- What the law's copies, sizes and comparisons of groups come to. MADE BY PROGRAM (gen_types.py). -/
section
set_option maxRecDepth 100000
set_option linter.unusedVariables false
set_option linter.unusedSectionVars false
set_option linter.unusedSimpArgs false
namespace Go.Proofs
open Go.PW Go.KP
attribute [local simp] RV.cells RV.one PV.cells PV.solid PV.one vals? allVal mkAgg setAt RV.ofCells elems PV.killL
variable [GF]

theorem g_szTarget (x : LTarget) (left : Int) (h0 : 0 ≤ left) (h1 : left ≤ 1048576) (hx : bdTarget 9223372036854775807 x) : CallOK Tryz.prog 97 [.val (rvTarget x), .val (num left)] (.ret (.val (num (cut left (zTarget x)))) []) [] := by
  refine call_val mixed ok97 rfl (fun _ => rfl) ?_
  unfold ir97
  rw [evalC_intro]
  unfold bdTarget at hx
  have b0 := hx
  unfold zTarget
  have w0 : IntKind.i64.wrap (left - ((x.url.length : Nat) : Int)) = left - ((x.url.length : Nat) : Int) := wrap_i64 (by omega) (by omega)
  by_cases k0 : left - ((x.url.length : Nat) : Int) < 0
  · rw [cut_neg (by omega)]
    simp [initSt, avPVs, avPV, avBoxesL, avBoxes, rvTarget, tx, num, bs_size, allVal, w0, k0]
  · rw [cut_pos (by omega)]
    simp [initSt, avPVs, avPV, avBoxesL, avBoxes, rvTarget, tx, num, bs_size, allVal, w0, k0]
    try omega

theorem g_toTarget (x : LTarget) (hx : bdTarget 1048576 x) : CallOK Tryz.prog 101 [.val (rvTarget x)] (.ret (.val (rvTarget x)) []) [] := by
  refine call_val mixed ok101 rfl (fun _ => rfl) ?_
  unfold ir101
  rw [evalC_intro]
  unfold bdTarget at hx
  have b0 := hx
  simp [initSt, avPVs, avPV, avBoxesL, avBoxes, rvTarget, tx, num, allVal]
  refine (resP_c (id := 2) (n := 3) (rs := [tx x.url, num x.prio, num x.weight]) ?_ ?_ rfl (by omega)).trans ?_
  · simp
  · simp [tx, num]
  · simp [rvTarget, tx, num, allVal]

theorem g_eqTarget (x : LTarget) (hx : bdTarget 1048576 x) : CallOK Tryz.prog 104 [.val (rvTarget x), .val (rvTarget x)] (.ret (.val (.bool true)) []) [] := by
  refine call_val mixed ok104 rfl (fun _ => rfl) ?_
  unfold ir104
  rw [evalC_intro]
  unfold bdTarget at hx
  have b0 := hx
  simp [initSt, avPVs, avPV, avBoxesL, avBoxes, rvTarget, tx, num, allVal]

theorem g_szTargetS (l : List LTarget) (left : Int) (h0 : 0 ≤ left) (h1 : left ≤ 1048576) (hx : bdS 9223372036854775807 (bdTarget 9223372036854775807) l) : CallOK Tryz.prog 54 [.val (.list 3 (l.map rvTarget)), .val (num left)] (.ret (.val (num (cut left (zS zTarget l)))) []) [] := by
  refine call_val mixed ok54 rfl (fun _ => rfl) ?_
  unfold ir54
  rw [evalC_intro]
  have hl : l.length ≤ 9223372036854775807 := hx.1
  have hw : IntKind.i64.wrap (left - (l.length : Int)) = left - l.length := wrap_i64 (by omega) (by omega)
  have hzs : zS zTarget l = l.length + lsum zTarget l := rfl
  by_cases h : left - (l.length : Int) < 0
  · rw [cut_neg (by omega)]
    simp [initSt, avPVs, avPV, avBoxesL, avBoxes, num, hw, h]
  · simp [initSt, avPVs, avPV, avBoxesL, avBoxes, num, hw, h]
    refine loop_EC (X := Nat) (fun i => ⟨envOf [(0, .val (.list 3 (l.map rvTarget))), (1, .val (num (left - l.length - (lsum zTarget (l.take i) : Nat)))), (5, .val (num i))], memOf []⟩) (fun i => i ≤ l.length ∧ 0 ≤ left - l.length - (lsum zTarget (l.take i) : Nat)) (fun i => l.length - i) 0 (Le.mk _ _ ?_ ?_) ?_ ?_
    · simp [upd, num, lsum, PV.kill]
    · simp
    · simp [lsum]; omega
    · rintro i ⟨hi, hg⟩
      simp [num]
      refine iteP_intro (fun h2 => ?_) (fun h2 => ?_)
      · have e1 : (l.map rvTarget)[i]?.getD .nilptr = rvTarget l[i] := by simp [List.getElem?_eq_getElem h2]
        have hsn : lsum zTarget (l.take (i + 1)) = lsum zTarget (l.take i) + zTarget l[i] := lsum_take _ h2
        have hle := lsum_le (f := zTarget) l (i + 1)
        simp [num, h2, e1, rvTarget, tx]
        refine callS_val rfl rfl (.inl rfl) (g_szTarget l[i] (left - l.length - (lsum zTarget (l.take i) : Nat)) (by omega) (by omega) (hx.2 _ (List.getElem_mem h2))) ?_
        by_cases h3 : left - (l.length : Int) - (lsum zTarget (l.take i) : Int) - (zTarget l[i] : Int) < 0
        · have c1 : cut (left - l.length - (lsum zTarget (l.take i) : Nat)) (zTarget l[i]) = -1 := cut_neg (by omega)
          have c2 : cut left (zS zTarget l) = -1 := cut_neg (by omega)
          rw [c1, c2]
          simp [num]
        · have c1 : cut (left - l.length - (lsum zTarget (l.take i) : Nat)) (zTarget l[i]) = left - l.length - (lsum zTarget (l.take i) : Nat) - (zTarget l[i] : Nat) := cut_pos (by omega)
          rw [c1]
          simp [num, h3]
          refine LoopNext.mk (i + 1) ⟨by omega, by omega⟩ (by omega) (Le.mk _ _ ?_ ?_)
          · simp [num]
            exact ⟨by omega, wrap_i64 (by omega) (by omega)⟩
          · simp
      · have e1 : i = l.length := by omega
        subst e1
        rw [List.take_length] at *
        rw [cut_pos (by omega)]
        simp [num]
        omega

theorem g_toTargetS (l : List LTarget) (hx : bdS 1048576 (bdTarget 1048576) l) : CallOK Tryz.prog 57 [.val (.list 3 (l.map rvTarget))] (.ret (.val (.list 3 (l.map rvTarget))) []) [] := by
  refine call_val mixed ok57 rfl (fun _ => rfl) ?_
  unfold ir57
  rw [evalC_intro]
  have hl : l.length ≤ 1048576 := hx.1
  simp [initSt, avPVs, avPV, avBoxesL, avBoxes, num, vals?]
  refine ⟨by omega, by omega, ?_⟩
  refine loop_EC (X := Nat) (fun i => ⟨envOf [(0, .val (.list 3 (l.map rvTarget))), (3, .own 7), (4, .val (num i))], memOf [(7, .row 76 3 (upTo rvTarget (.agg [.str (bs []), .int .i64 0, .int .i64 0]) l i))]⟩) (fun i => i ≤ l.length) (fun i => l.length - i) 0 (Le.mk _ _ ?_ ?_) ?_ ?_
  · simp [upd, num, PV.kill]
  · simp [upd, num, bs, upTo_zero]
  · simp
  · intro i hi
    have hlen := upTo_len rvTarget (.agg [.str (bs []), .int .i64 0, .int .i64 0]) l i hi
    simp [num, vals?]
    refine iteP_intro (fun h1 => ?_) (fun h1 => ?_)
    · have e1 : (l.map rvTarget)[i]?.getD .nilptr = rvTarget l[i] := by simp [List.getElem?_eq_getElem h1]
      have e2 := upTo_at rvTarget (.agg [.str (bs []), .int .i64 0, .int .i64 0]) l i h1
      have e3 := upTo_set rvTarget (.agg [.str (bs []), .int .i64 0, .int .i64 0]) l i h1
      have e4 : (upTo rvTarget (.agg [.str (bs []), .int .i64 0, .int .i64 0]) l i)[i]'(by omega) = (.agg [.str (bs []), .int .i64 0, .int .i64 0]) := by
        have h9 := e2
        rw [List.getElem?_eq_getElem (show i < (upTo rvTarget (.agg [.str (bs []), .int .i64 0, .int .i64 0]) l i).length by omega)] at h9
        exact h9
      simp [num, h1, e1, rvTarget, tx, hlen, vals?]
      refine callS_val rfl rfl (.inl rfl) (g_toTarget l[i] (hx.2 _ (List.getElem_mem h1))) ?_
      simp [num, h1, e1, e2, rvTarget, tx, hlen, vals?]
      refine LoopNext.mk (i + 1) (by omega) (by omega) (Le.mk _ _ ?_ ?_)
      · simp [num]; exact wrap_i64 (by omega) (by omega)
      · rw [← e3]
        simp [rvTarget, num, tx, e4]
    · have e1 : i = l.length := by omega
      subst e1
      simp [num, upTo_all, frzOf, PV.pl]

theorem g_eqTargetS (l : List LTarget) (hx : bdS 1048576 (bdTarget 1048576) l) : CallOK Tryz.prog 61 [.val (.list 3 (l.map rvTarget)), .val (.list 3 (l.map rvTarget))] (.ret (.val (.bool true)) []) [] := by
  refine call_val mixed ok61 rfl (fun _ => rfl) ?_
  unfold ir61
  rw [evalC_intro]
  have hl : l.length ≤ 1048576 := hx.1
  simp [initSt, avPVs, avPV, avBoxesL, avBoxes, num]
  refine loop_EC (X := Nat) (fun i => ⟨envOf [(0, .val (.list 3 (l.map rvTarget))), (1, .val (.list 3 (l.map rvTarget))), (5, .val (num i))], memOf []⟩) (fun i => i ≤ l.length) (fun i => l.length - i) 0 (Le.mk _ _ ?_ ?_) ?_ ?_
  · simp [upd, num, PV.kill]
  · simp
  · simp
  · intro i hi
    simp [num]
    refine iteP_intro (fun h1 => ?_) (fun h1 => ?_)
    · have e1 : (l.map rvTarget)[i]?.getD .nilptr = rvTarget l[i] := by simp [List.getElem?_eq_getElem h1]
      simp [num, h1, e1, rvTarget, tx]
      refine callS_val rfl rfl (.inl rfl) (g_eqTarget l[i] (hx.2 _ (List.getElem_mem h1))) ?_
      simp
      refine LoopNext.mk (i + 1) (by omega) (by omega) (Le.mk _ _ ?_ ?_)
      · simp [num]; exact wrap_i64 (by omega) (by omega)
      · simp
    · simp

theorem g_szGroup (x : LGroup) (left : Int) (h0 : 0 ≤ left) (h1 : left ≤ 1048576) (hx : bdGroup 9223372036854775807 x) : CallOK Tryz.prog 23 [.val (rvGroup x), .val (num left)] (.ret (.val (num (cut left (zGroup x)))) []) [] := by
  refine call_val mixed ok23 rfl (fun _ => rfl) ?_
  unfold ir23
  rw [evalC_intro]
  unfold bdGroup at hx
  obtain ⟨b0, b1⟩ := hx
  unfold zGroup
  have w0 : IntKind.i64.wrap (left - ((x.name.length : Nat) : Int)) = left - ((x.name.length : Nat) : Int) := wrap_i64 (by omega) (by omega)
  by_cases k0 : left - ((x.name.length : Nat) : Int) < 0
  · rw [cut_neg (by omega)]
    simp [initSt, avPVs, avPV, avBoxesL, avBoxes, rvGroup, tx, num, bs_size, allVal, w0, k0]
  · simp [initSt, avPVs, avPV, avBoxesL, avBoxes, rvGroup, tx, num, bs_size, allVal, w0, k0]
    refine callS_val rfl rfl (.inl rfl) (g_szTargetS x.targets (left - (x.name.length : Nat)) (by omega) (by omega) b1) ?_
    by_cases k1 : (left - (x.name.length : Nat)) - ((zS zTarget x.targets : Nat) : Int) < 0
    · first | rw [cut_neg (by omega), cut_neg (by omega)] | rw [cut_neg (by omega)]
      simp [rvGroup, tx, num, bs_size, allVal]
    · first | rw [cut_pos (by omega), cut_pos (by omega)] | rw [cut_pos (by omega)]
      simp [rvGroup, tx, num, bs_size, allVal, k0, k1]
      try omega

theorem g_toGroup (x : LGroup) (hx : bdGroup 1048576 x) : CallOK Tryz.prog 25 [.val (rvGroup x)] (.ret (.val (rvGroup x)) []) [] := by
  refine call_val mixed ok25 rfl (fun _ => rfl) ?_
  unfold ir25
  rw [evalC_intro]
  unfold bdGroup at hx
  obtain ⟨b0, b1⟩ := hx
  simp [initSt, avPVs, avPV, avBoxesL, avBoxes, rvGroup, tx, num, allVal]
  refine callS_val rfl rfl (.inl rfl) (g_toTargetS x.targets b1) ?_
  simp [rvGroup, tx, num, allVal]
  refine (resP_c (id := 2) (n := 3) (rs := [tx x.name, num x.age, .list 3 (x.targets.map rvTarget)]) ?_ ?_ rfl (by omega)).trans ?_
  · simp
  · simp [tx, num]
  · simp [rvGroup, tx, num, allVal]

theorem g_eqGroup (x : LGroup) (hx : bdGroup 1048576 x) : CallOK Tryz.prog 27 [.val (rvGroup x), .val (rvGroup x)] (.ret (.val (.bool true)) []) [] := by
  refine call_val mixed ok27 rfl (fun _ => rfl) ?_
  unfold ir27
  rw [evalC_intro]
  unfold bdGroup at hx
  obtain ⟨b0, b1⟩ := hx
  simp [initSt, avPVs, avPV, avBoxesL, avBoxes, rvGroup, tx, num, allVal]
  refine callS_val rfl rfl (.inl rfl) (g_eqTargetS x.targets b1) ?_
  simp [rvGroup, tx, num, allVal]

end Go.Proofs
end
