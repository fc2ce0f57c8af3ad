/- Ec: merged out of KLc, KIm, KIn. -/
import Derived.Test.YtnopddgnkefljaaGreatDoorEa
import Derived.Shelf.Strings.IndexAnyAll
import Derived.Laws.Runes
import Derived.Laws.RangeAny
import Derived.Lib.QuoteLoop
import Derived.WalkMore
import Derived.Lib.OthersKept
import Derived.Deep.QuietTactic
import Derived.BigQuiet
import Derived.Deep.DeepBigQuietO
import Derived.Shelf.RegionOpenPlain
import Derived.Test.YtnopddgnkefljaaGreatDoorCa
import Derived.Test.YtnopddgnkefljaaGreatDoorAc
import Derived.Test.YtnopddgnkefljaaGreatDoorBb
import Derived.Test.YtnopddgnkefljaaGreatDoorEb
import Derived.Test.YtnopddgnkefljaaGreatDoorCb

/- strings.IndexRune at a rune that is no ASCII byte; strings.ContainsAny at every text, of ASCII signs. -/
section
set_option linter.unusedVariables false
namespace Go.Proofs
open Go.Shelf Go.RowKit Go.Lib
variable {P : Program} {ρ : Ren}

/-! ### Of a rune that is no ASCII byte all bytes are beyond ASCII -/
open Go.PW Go.KP
variable [GH]
end Go.Proofs
end

/- What slices.* come to at some element types. MADE BY PROGRAM (gen_slices.py). -/
section
set_option maxRecDepth 100000
set_option linter.unusedVariables false
set_option linter.unusedSectionVars false
set_option linter.unusedSimpArgs false
namespace Go.Proofs
open Go.PW Go.KP
attribute [local simp] RV.cells RV.one PV.cells PV.solid PV.one vals? allVal mkAgg setAt RV.ofCells elems PV.killL
variable [GF]

theorem i_Equal_str (a b : List Tx) (ha : a.length < 1099511627776) (hb : b.length < 1099511627776) : CallOK Tryz.prog 84 [.val (.list 1 (a.map tx)), .val (.list 1 (b.map tx))] (.ret (.val (.bool (decide (a = b)))) []) [] := by
  refine call_val mixed ok84 rfl (fun _ => rfl) ?_
  unfold ir84
  rw [evalC_intro]
  by_cases hlen : a.length = b.length
  rotate_left
  · have h1 : ¬ (a.length : Int) = b.length := by omega
    have h2 : a ≠ b := fun e => hlen (by rw [e])
    simp [initSt, avPVs, avPV, avBoxesL, avBoxes, h1, h2]
  simp [initSt, avPVs, avPV, avBoxesL, avBoxes, num, hlen]
  refine loop_EC (X := Nat) (fun i => ⟨envOf [(0, .val (.list 1 (a.map tx))), (1, .val (.list 1 (b.map tx))), (12, .val (num b.length)), (13, .val (num i))], memOf []⟩) (fun i => i ≤ b.length ∧ a.take i = b.take i) (fun i => b.length - i) 0 (Le.mk _ _ ?_ ?_) ?_ ?_
  · simp [upd, num]
  · simp
  · simp
  · rintro i ⟨hi, heq⟩
    simp [num]
    refine iteP_intro (fun h1b => ?_) (fun h1 => ?_)
    · have h1 : i < a.length := by omega
      have e1 : (a.map tx)[i]?.getD .nilptr = tx a[i] := by simp [List.getElem?_eq_getElem h1]
      have e2 : (b.map tx)[i]?.getD .nilptr = tx b[i] := by simp [List.getElem?_eq_getElem h1b]
      simp [num, h1, h1b, e1, e2, tx, bs_inj]
      by_cases hu : a[i] = b[i]
      · simp [hu]
        refine LoopNext.mk (i + 1) ⟨by omega, ?_⟩ (by omega) (Le.mk _ _ ?_ ?_)
        · rw [List.take_add_one, List.take_add_one, List.getElem?_eq_getElem h1, List.getElem?_eq_getElem h1b, heq, hu]
        · simp [num, tx]; exact wrap_i64 (by omega) (by omega)
        · simp
      · have h2 : a ≠ b := fun e => hu (by subst e; rfl)
        simp [hu, h2]
    · have e : i = b.length := by omega
      subst e
      rw [← hlen, List.take_length, hlen, List.take_length] at heq
      simp [heq]

end Go.Proofs
end

/- What the program's look at names, rules and policies comes to. -/
section
set_option maxRecDepth 100000
set_option linter.unusedVariables false
set_option linter.unusedSectionVars false
set_option linter.unusedSimpArgs false
namespace Go.Proofs
open Go.PW Go.KP
attribute [local simp] RV.cells RV.one PV.cells PV.solid PV.one vals? allVal mkAgg setAt RV.ofCells elems PV.killL
variable [GH]

theorem i_isRule (t : Tx) (ht : t.length < 1099511627776) : CallOK Tryz.prog 79 [.val (tx t)] (.ret (.val (.bool (lrname t))) []) [] := by
  refine call_val mixed ok79 rfl (fun _ => rfl) ?_
  unfold ir79
  rw [evalC_intro]
  have hmin : (if (25 : Int) < (t.length : Int) then (25 : Int) else (t.length : Int)) = ((min t.length 25 : Nat) : Int) := by split <;> omega
  simp [initSt, avPVs, avPV, avBoxesL, avBoxes, tx, bs_size, hmin]
  refine loop_EC (X := Nat) (fun i => ⟨envOf [(0, .val (tx t)), (6, .val (num ((min t.length 25 : Nat) : Int))), (7, .val (num i))], memOf []⟩) (fun i => i ≤ min t.length 25 ∧ headAll isLow isRul (t.take i) = true) (fun i => min t.length 25 - i) 0 (Le.mk _ _ ?_ ?_) ?_ ?_
  · simp [upd, tx, num]
  · simp
  · simp [headAll]
  · rintro i ⟨hi, hall⟩
    generalize hm : min t.length 25 = m at *
    simp [num]
    refine iteP_intro (fun h3' => ?_) (fun h3' => ?_)
    · have h3 : i < t.length := by omega
      have hstep := headAll_succ (p := isLow) (q := isRul) (fun _ h => isLow_isRul h) t i h3
      rw [hall, Bool.true_and] at hstep
      have hbad := headAll_false (p := isLow) (q := isRul) t i h3
      have hres : (if i = 0 then isLow t[i] else isRul t[i]) = false → lrname t = false := fun h => by unfold lrname; rw [hbad h, Bool.and_false]
      have e3 : ((t[i].toNat : Int) = 45) ↔ t[i].toNat = 45 := by omega
      simp [tx, num, bs_size, byteAt_bs, h3]
      refine callS_val rfl rfl (.inl rfl) (i_isLower t[i]) ?_
      cases hlow : isLow t[i] with
      | true =>
        simp
        refine LoopNext.mk (i + 1) ⟨by omega, by rw [hstep]; split; exact hlow; exact isLow_isRul hlow⟩ (by omega) (Le.mk _ _ ?_ ?_)
        · simp [tx, num]; exact wrap_i64 (by omega) (by omega)
        · simp
      | false =>
        by_cases h45 : t[i].toNat = 45
        · by_cases h0 : i = 0
          · have hr := hres (by rw [if_pos h0]; exact hlow)
            simp [tx, num, bs_size, byteAt_bs, h3, e3, h45, (eq_true h0 : (i = 0) = True), hr]
          · simp [tx, num, bs_size, byteAt_bs, h3, e3, h45, h0]
            refine LoopNext.mk (i + 1) ⟨by omega, by rw [hstep, if_neg h0]; simp [isRul, h45]⟩ (by omega) (Le.mk _ _ ?_ ?_)
            · simp [tx, num]; exact wrap_i64 (by omega) (by omega)
            · simp
        · have hr := hres (by
            split
            · exact hlow
            · simp [isRul, hlow, h45])
          simp [tx, num, bs_size, byteAt_bs, h3, e3, h45, hr]
    · have e : i = m := by omega
      subst e
      simp [tx, bs_size]
      refine callS_val rfl rfl (.inl rfl) (i_within t.length 1 24) ?_
      by_cases hlen : 1 ≤ t.length ∧ t.length ≤ 24
      · rw [show decide ((1 : Int) ≤ t.length ∧ (t.length : Int) ≤ 24) = true from decide_eq_true (by omega)]
        have he : t.take i = t := List.take_of_length_le (by omega)
        rw [he] at hall
        have : lrname t = true := by unfold lrname; rw [hall, decide_eq_true hlen]; rfl
        simp [this]
      · rw [show decide ((1 : Int) ≤ t.length ∧ (t.length : Int) ≤ 24) = false from decide_eq_false (by omega)]
        have : lrname t = false := by unfold lrname; rw [decide_eq_false hlen]; rfl
        simp [this]

structure MS (st : St) (rt : Tx) (acc : List Tx) (rules : List LRule) : Prop where
  e1 : st.env 1 = .ptr 1 0
  e2 : st.env 2 = .ptr 2 0
  m2 : st.mem 2 = .box [.val (tx []), .emp 1, .emp 2]
  m1 : st.mem 1 = .box [.val (tx rt), ownOr 1 55 acc, .val (.list 2 (rules.map rvRule))]
  m55 : acc ≠ [] → st.mem 55 = .row 9 1 (acc.map tx)

end Go.Proofs
end
