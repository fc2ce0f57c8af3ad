/- Cd: merged out of KSf, KSg, KSh, KSi, KSj. -/
import Derived.Test.YtmilnihobbgopaaGreatDoorCa
import Derived.Test.YtmilnihobbgopaaGreatDoorBd
import Derived.Test.YtmilnihobbgopaaGreatDoorAc
import Derived.Test.YtmilnihobbgopaaGreatDoorPWw

/- What the spec's waking, and the law's looks at peers, come to. -/
section
set_option maxRecDepth 100000
set_option linter.unusedVariables false
set_option linter.unusedSectionVars false
set_option linter.unusedSimpArgs false
namespace Go.Proofs
open Go.PW Go.KP
attribute [local simp] RV.cells RV.one PV.cells PV.solid PV.one vals? allVal mkAgg setAt RV.ofCells elems PV.killL
variable [GF]

def wakeRv (acc : Option Int) : Int := match acc with
  | none => -1
  | some n => n
def wakeRes (r : Int × Int) : PV := .tup [.val (num r.1), .val (num r.2)]

theorem c_specNextWake (l : List LPeer) (now : Int) (hl : l.length < 1099511627776) (hs : ∀ p ∈ l, p.target.url.length < 1099511627776) : CallOK Tryz.prog 57 [.val (rvPeers l), .val (num now)] (.ret (wakeRes (lnextWake l now)) []) [] := by
  refine call_val mixed ok57 rfl (fun _ => rfl) ?_
  unfold ir57
  rw [evalC_intro]
  unfold lnextWake
  by_cases h0 : 4096 < l.length
  · have h0' : (4096 : Int) < l.length := by omega
    rw [if_pos h0]
    simp [initSt, avPVs, avPV, avBoxesL, avBoxes, rvPeers, num, h0', wakeRes]
  · have h0' : ¬ (4096 : Int) < l.length := by omega
    rw [if_neg h0]
    simp [initSt, avPVs, avPV, avBoxesL, avBoxes, rvPeers, num, h0']
    refine callS_val rfl rfl (.inl rfl) (c_l07OK l hl hs) ?_
    cases hok : lpeersOK l with
    | false => simp [num, wakeRes]
    | true =>
      simp [num]
      refine callS_val rfl rfl (.inl rfl) (c_l01In .i64 now 0 1000000) ?_
      by_cases hn : 0 ≤ now ∧ now ≤ 1000000
      · rw [if_pos hn]
        simp [num, hn]
        refine loop_EC (X := Nat) (fun i => ⟨envOf [(0, .val (rvPeers l)), (1, .val (num now)), (6, .val (num (wakeRv (lwake now (l.take i))))), (7, .val (num i))], memOf []⟩) (fun i => i ≤ l.length) (fun i => l.length - i) 0 (Le.mk _ _ ?_ ?_) ?_ ?_
        · simp [upd, rvPeers, num, lwake, wakeRv]
        · simp
        · simp
        · intro i hi
          simp [num, rvPeers]
          refine iteP_intro (fun h1 => ?_) (fun h1 => ?_)
          · have e1 := peers_at h1
            rw [List.getD_eq_getElem?_getD] at e1
            have hsn : lwake now (l.take (i + 1)) = wakeStep now (lwake now (l.take i)) l[i] := by
              rw [List.take_add_one, List.getElem?_eq_getElem h1]
              exact lwake_snoc _ _ _
            have hmx : (if now < l[i].retry then l[i].retry else now) = max now l[i].retry := by
              split <;> omega
            have hnext : ∀ st' : St, st'.env 0 = .val (rvPeers l) → st'.env 1 = .val (num now) → st'.env 6 = .val (num (wakeRv (wakeStep now (lwake now (l.take i)) l[i]))) → st'.env 7 = .val (num ((i : Int) + 1)) →
                ∃ x', x' ≤ l.length ∧ l.length - x' < l.length - i ∧ Le st' ⟨envOf [(0, .val (rvPeers l)), (1, .val (num now)), (6, .val (num (wakeRv (lwake now (l.take x'))))), (7, .val (num x'))], memOf []⟩ := fun st' q1 q2 q3 q4 => by
              refine ⟨i + 1, by omega, by omega, Le.mk _ _ ?_ ?_⟩
              · simp [q1, q2, q4, hsn, q3]
              · simp
            simp [num, rvPeers, h1, e1, rvPeer, tx]
            have hle : ∀ b, lwake now (l.take i) = some b → 0 ≤ b := fun b hb => by have := lwake_le hb; omega
            cases hg : l[i].gone with
            | true =>
              simp
              refine hnext _ ?_ ?_ ?_ ?_
              · simp [rvPeers]
              · simp [num]
              · simp [num, wakeStep, hg]
              · simp [num]; exact wrap_i64 (by omega) (by omega)
            | false =>
              cases hacc : lwake now (l.take i) with
              | none =>
                simp [wakeRv, hmx]
                refine hnext _ ?_ ?_ ?_ ?_
                · simp [rvPeers]
                · simp [num]
                · simp [num, wakeStep, hg, hacc, wakeRv]
                · simp [num]; exact wrap_i64 (by omega) (by omega)
              | some b =>
                have hb := hle b hacc
                have hb' : ¬ b < 0 := by omega
                by_cases hlt : max now l[i].retry < b
                · simp [wakeRv, hmx, hb, hb', hlt]
                  refine hnext _ ?_ ?_ ?_ ?_
                  · simp [rvPeers]
                  · simp [num]
                  · simp [num, wakeStep, hg, hacc, wakeRv, hlt]
                  · simp [num]; exact wrap_i64 (by omega) (by omega)
                · simp [wakeRv, hmx, hb, hb', hlt]
                  refine hnext _ ?_ ?_ ?_ ?_
                  · simp [rvPeers]
                  · simp [num]
                  · simp [num, wakeStep, hg, hacc, wakeRv, hlt]
                  · simp [num]; exact wrap_i64 (by omega) (by omega)
          · have e1 : i = l.length := by omega
            subst e1
            rw [List.take_length]
            cases hacc : lwake now l with
            | none => simp [wakeRv, num, wakeRes]
            | some b =>
              have hb := lwake_le hacc
              have hb' : ¬ b < 0 := by omega
              simp [wakeRv, num, wakeRes, hb']
      · rw [if_neg hn, decide_eq_false hn]
        simp [num, wakeRes]

theorem c_szTarget (x : LTarget) (left : Int) (h0 : 0 ≤ left) (h1 : left ≤ 1048576) (hx : x.url.length ≤ 9223372036854775807) : CallOK Tryz.prog 156 [.val (rvTarget x), .val (num left)] (.ret (.val (num (if left - x.url.length < 0 then -1 else left - x.url.length))) []) [] := by
  refine call_val mixed ok156 rfl (fun _ => rfl) ?_
  unfold ir156
  rw [evalC_intro]
  have hw : IntKind.i64.wrap (left - (x.url.length : Int)) = left - x.url.length := wrap_i64 (by omega) (by omega)
  by_cases h : left - (x.url.length : Int) < 0
  · simp [initSt, avPVs, avPV, avBoxesL, avBoxes, rvTarget, tx, num, bs_size, hw, h]
  · simp [initSt, avPVs, avPV, avBoxesL, avBoxes, rvTarget, tx, num, bs_size, hw, h]

theorem c_szPeer (x : LPeer) (left : Int) (h0 : 0 ≤ left) (h1 : left ≤ 1048576) (hx : x.target.url.length ≤ 9223372036854775807) : CallOK Tryz.prog 78 [.val (rvPeer x), .val (num left)] (.ret (.val (num (if left - x.target.url.length < 0 then -1 else left - x.target.url.length))) []) [] := by
  refine call_val mixed ok78 rfl (fun _ => rfl) ?_
  unfold ir78
  rw [evalC_intro]
  simp [initSt, avPVs, avPV, avBoxesL, avBoxes, rvPeer, tx, num, bs_size, allVal]
  refine callS_val rfl rfl (.inl rfl) (c_szTarget x.target left h0 h1 hx) ?_
  by_cases h : left - (x.target.url.length : Int) < 0
  · simp [num, h]
  · simp [num, h]

theorem c_szPeerS (l : List LPeer) (left : Int) (h0 : 0 ≤ left) (h1 : left ≤ 1048576) (hl : l.length ≤ 9223372036854775807) (hx : ∀ p ∈ l, p.target.url.length ≤ 9223372036854775807) : CallOK Tryz.prog 24 [.val (rvPeers l), .val (num left)] (.ret (.val (num (lsz l left))) []) [] := by
  refine call_val mixed ok24 rfl (fun _ => rfl) ?_
  unfold ir24
  rw [evalC_intro]
  have hw : IntKind.i64.wrap (left - (l.length : Int)) = left - l.length := wrap_i64 (by omega) (by omega)
  unfold lsz
  by_cases h : left - (l.length : Int) < 0
  · rw [if_pos (by omega)]
    simp [initSt, avPVs, avPV, avBoxesL, avBoxes, rvPeers, num, hw, h]
  · simp [initSt, avPVs, avPV, avBoxesL, avBoxes, rvPeers, num, hw, h]
    refine loop_EC (X := Nat) (fun i => ⟨envOf [(0, .val (rvPeers l)), (1, .val (num (left - l.length - ltot (l.take i)))), (5, .val (num i))], memOf []⟩) (fun i => i ≤ l.length ∧ 0 ≤ left - l.length - ltot (l.take i)) (fun i => l.length - i) 0 (Le.mk _ _ ?_ ?_) ?_ ?_
    · simp [upd, rvPeers, num, ltot]
    · simp
    · simp [ltot]; omega
    · rintro i ⟨hi, hg⟩
      simp [num, rvPeers]
      refine iteP_intro (fun h2 => ?_) (fun h2 => ?_)
      · have e1 := peers_at h2
        rw [List.getD_eq_getElem?_getD] at e1
        have hsn : ltot (l.take (i + 1)) = ltot (l.take i) + l[i].target.url.length := by
          rw [List.take_add_one, List.getElem?_eq_getElem h2]
          exact ltot_snoc _ _
        have hle := ltot_take l (i + 1)
        simp [num, rvPeers, h2, e1, rvPeer, tx]
        refine callS_val rfl rfl (.inl rfl) (c_szPeer l[i] (left - l.length - ltot (l.take i)) (by omega) (by omega) (hx _ (List.getElem_mem h2))) ?_
        by_cases h3 : left - (l.length : Int) - (ltot (l.take i) : Int) - (l[i].target.url.length : Int) < 0
        · rw [if_pos h3, if_pos (by omega)]
          simp [num]
        · rw [if_neg h3]
          simp [num, h3]
          refine LoopNext.mk (i + 1) ⟨by omega, by omega⟩ (by omega) (Le.mk _ _ ?_ ?_)
          · simp [rvPeers, num]
            exact ⟨by omega, wrap_i64 (by omega) (by omega)⟩
          · simp
      · have e1 : i = l.length := by omega
        subst e1
        rw [List.take_length] at *
        rw [if_neg (by omega)]
        simp [num]
end Go.Proofs
end

/- What the law's copies and comparisons of peers come to. -/
section
set_option maxRecDepth 100000
set_option linter.unusedVariables false
set_option linter.unusedSectionVars false
set_option linter.unusedSimpArgs false
namespace Go.Proofs
open Go.PW Go.KP
attribute [local simp] RV.cells RV.one PV.cells PV.solid PV.one vals? allVal mkAgg setAt RV.ofCells elems PV.killL
variable [GF]

theorem c_toTarget (x : LTarget) : CallOK Tryz.prog 158 [.val (rvTarget x)] (.ret (.val (rvTarget x)) []) [] := by
  refine call_val mixed ok158 rfl (fun _ => rfl) ?_
  unfold ir158
  rw [evalC_intro]
  simp [initSt, avPVs, avPV, avBoxesL, avBoxes, rvTarget, tx, num]
  refine (resP_c (id := 2) (n := 3) (rs := [tx x.url, num x.prio, num x.weight]) ?_ ?_ rfl (by omega)).trans ?_
  · simp
  · simp [tx, num]
  · simp [mkAgg, allVal, tx, num, rvPeer, rvTarget]

theorem c_toPeer (x : LPeer) : CallOK Tryz.prog 81 [.val (rvPeer x)] (.ret (.val (rvPeer x)) []) [] := by
  refine call_val mixed ok81 rfl (fun _ => rfl) ?_
  unfold ir81
  rw [evalC_intro]
  simp [initSt, avPVs, avPV, avBoxesL, avBoxes, rvPeer, tx, num, allVal]
  refine callS_val rfl rfl (.inl rfl) (c_toTarget x.target) ?_
  simp [rvTarget, tx, num, allVal]
  refine (resP_c (id := 2) (rs := [tx x.target.url, num x.target.prio, num x.target.weight, num x.fails, num x.retry, .bool x.gone]) (n := 6) ?_ ?_ rfl (by omega)).trans ?_
  · simp
  · simp [tx, num]
  · simp [mkAgg, allVal, tx, num, rvPeer, rvTarget]

def zPeer : RV := .agg [.str (bs []), num 0, num 0, num 0, num 0, .bool false]
/-- The first i peers, then empty ones. -/
def peersUp (l : List LPeer) (i : Nat) : List RV := (l.take i).map rvPeer ++ List.replicate (l.length - i) zPeer
theorem peersUp_zero (l : List LPeer) : peersUp l 0 = List.replicate l.length zPeer := by simp [peersUp]
theorem peersUp_all (l : List LPeer) : peersUp l l.length = l.map rvPeer := by simp [peersUp]
theorem peersUp_len (l : List LPeer) (i : Nat) (h : i ≤ l.length) : (peersUp l i).length = l.length := by simp [peersUp]; omega
theorem peersUp_set (l : List LPeer) (i : Nat) (h : i < l.length) : (peersUp l i).set i (rvPeer l[i]) = peersUp l (i + 1) := by
  unfold peersUp
  have h1 : l.length - i = (l.length - (i + 1)) + 1 := by omega
  have h2 : ((l.take i).map rvPeer).length = i := by simp; omega
  rw [h1, List.replicate_succ, List.set_append_right _ _ (by omega), h2, Nat.sub_self, List.set_cons_zero]
  rw [List.take_add_one, List.getElem?_eq_getElem h, List.map_append, List.append_assoc]
  rfl
theorem peersUp_at (l : List LPeer) (i : Nat) (h : i < l.length) : (peersUp l i)[i]?.getD .nilptr = zPeer := by
  unfold peersUp
  have h1 : l.length - i = (l.length - (i + 1)) + 1 := by omega
  have h2 : ((l.take i).map rvPeer).length = i := by simp; omega
  rw [h1, List.replicate_succ, List.getElem?_append_right (by omega), h2]
  simp

theorem c_toPeerS (l : List LPeer) (hl : l.length < 1099511627776) : CallOK Tryz.prog 26 [.val (rvPeers l)] (.ret (.val (rvPeers l)) []) [] := by
  refine call_val mixed ok26 rfl (fun _ => rfl) ?_
  unfold ir26
  rw [evalC_intro]
  simp [initSt, avPVs, avPV, avBoxesL, avBoxes, rvPeers, num, vals?]
  refine ⟨by omega, by omega, ?_⟩
  refine loop_EC (X := Nat) (fun i => ⟨envOf [(0, .val (rvPeers l)), (3, .own 7), (4, .val (num i))], memOf [(7, .row 67 6 (peersUp l i))]⟩) (fun i => i ≤ l.length) (fun i => l.length - i) 0 (Le.mk _ _ ?_ ?_) ?_ ?_
  · simp [upd, rvPeers, num, PV.kill]
  · simp [upd, zPeer, num, bs, peersUp_zero]
  · simp
  · intro i hi
    have hlen := peersUp_len l i hi
    simp [num, rvPeers, vals?]
    refine iteP_intro (fun h1 => ?_) (fun h1 => ?_)
    · have e1 := peers_at h1
      rw [List.getD_eq_getElem?_getD] at e1
      have e2 := peersUp_at l i h1
      have e3 := peersUp_set l i h1
      have e4 : (peersUp l i)[i]'(by omega) = zPeer := by rw [← e2]; simp [List.getElem?_eq_getElem (show i < (peersUp l i).length by omega)]
      simp [num, rvPeers, h1, e1, rvPeer, tx, vals?, hlen]
      refine callS_val rfl rfl (.inl rfl) (c_toPeer l[i]) ?_
      simp [num, rvPeers, h1, e1, e2, rvPeer, tx, vals?, hlen, zPeer]
      refine LoopNext.mk (i + 1) (by omega) (by omega) (Le.mk _ _ ?_ ?_)
      · simp [rvPeers, num]; exact wrap_i64 (by omega) (by omega)
      · rw [← e3]
        simp [rvPeer, num, tx, e4, zPeer]
    · have e1 : i = l.length := by omega
      subst e1
      simp [num, rvPeers, frzOf, peersUp_all]

theorem c_eqTarget (x : LTarget) : CallOK Tryz.prog 159 [.val (rvTarget x), .val (rvTarget x)] (.ret (.val (.bool true)) []) [] := by
  refine call_val mixed ok159 rfl (fun _ => rfl) ?_
  unfold ir159
  rw [evalC_intro]
  simp [initSt, avPVs, avPV, avBoxesL, avBoxes, rvTarget, tx, num]

theorem c_eqPeer (x : LPeer) : CallOK Tryz.prog 84 [.val (rvPeer x), .val (rvPeer x)] (.ret (.val (.bool true)) []) [] := by
  refine call_val mixed ok84 rfl (fun _ => rfl) ?_
  unfold ir84
  rw [evalC_intro]
  simp [initSt, avPVs, avPV, avBoxesL, avBoxes, rvPeer, tx, num, allVal]
  refine callS_val rfl rfl (.inl rfl) (c_eqTarget x.target) ?_
  simp [num]

theorem c_eqPeerS (l : List LPeer) (hl : l.length < 1099511627776) : CallOK Tryz.prog 28 [.val (rvPeers l), .val (rvPeers l)] (.ret (.val (.bool true)) []) [] := by
  refine call_val mixed ok28 rfl (fun _ => rfl) ?_
  unfold ir28
  rw [evalC_intro]
  simp [initSt, avPVs, avPV, avBoxesL, avBoxes, rvPeers, num]
  refine loop_EC (X := Nat) (fun i => ⟨envOf [(0, .val (rvPeers l)), (1, .val (rvPeers l)), (5, .val (num i))], memOf []⟩) (fun i => i ≤ l.length) (fun i => l.length - i) 0 (Le.mk _ _ ?_ ?_) ?_ ?_
  · simp [upd, rvPeers, num]
  · simp
  · simp
  · intro i hi
    simp [num, rvPeers]
    refine iteP_intro (fun h1 => ?_) (fun h1 => ?_)
    · have e1 := peers_at h1
      rw [List.getD_eq_getElem?_getD] at e1
      simp [num, rvPeers, h1, e1, rvPeer, tx]
      refine callS_val rfl rfl (.inl rfl) (c_eqPeer l[i]) ?_
      simp
      refine LoopNext.mk (i + 1) (by omega) (by omega) (Le.mk _ _ ?_ ?_)
      · simp [rvPeers, num]; exact wrap_i64 (by omega) (by omega)
      · simp
    · simp
end Go.Proofs
end

/- What the spec's choosing of a peer comes to. -/
section
set_option maxRecDepth 100000
set_option linter.unusedVariables false
set_option linter.unusedSectionVars false
set_option linter.unusedSimpArgs false
namespace Go.Proofs
open Go.PW Go.KP
attribute [local simp] RV.cells RV.one PV.cells PV.solid PV.one vals? allVal mkAgg setAt RV.ofCells elems PV.killL
variable [GF]

theorem c_l07Ready (x : LPeer) (now : Int) : CallOK Tryz.prog 186 [.val (rvPeer x), .val (num now)] (.ret (.val (.bool (lready now x))) []) [] := by
  refine call_val mixed ok186 rfl (fun _ => rfl) ?_
  unfold ir186
  rw [evalC_intro]
  unfold lready
  cases hg : x.gone <;> simp [initSt, avPVs, avPV, avBoxesL, avBoxes, rvPeer, tx, num, allVal, hg]

theorem schoose_l13 {K : Kx (PExit → St → Prop)} (l : List LPeer) (now draw b s : Int) (hl : l.length ≤ 4) (hg : chGood l) (i : Nat) (hi : i ≤ l.length) (hinv : ChInv now (l.take i) (b, s))
    (hx : i = l.length → ∀ st' : St, st'.env 0 = .val (rvPeers l) → st'.env 1 = .val (num now) → st'.env 2 = .val (num draw) → st'.env 7 = .val (num b) → st'.env 8 = .val (num s) → K.k (.exit 0) st')
    (hn : ∀ h : i < l.length, ∀ st' : St, st'.env 0 = .val (rvPeers l) → st'.env 1 = .val (num now) → st'.env 2 = .val (num draw) → st'.env 7 = .val (num (chStep now (b, s) l[i]).1) → st'.env 8 = .val (num (chStep now (b, s) l[i]).2) → st'.env 9 = .val (num ((i + 1 : Nat) : Int)) → K.k .normal st') :
    EC Tryz.prog ir119_l13 ⟨envOf [(0, .val (rvPeers l)), (1, .val (num now)), (2, .val (num draw)), (7, .val (num b)), (8, .val (num s)), (9, .val (num i))], memOf []⟩ (K := K) := by
  unfold ir119_l13
  simp [num, rvPeers]
  refine iteP_intro (fun h1 => ?_) (fun h1 => ?_)
  · have e1 := peers_at h1
    rw [List.getD_eq_getElem?_getD] at e1
    have hwi : IntKind.i64.wrap ((i : Int) + 1) = (i : Int) + 1 := wrap_i64 (by omega) (by omega)
    have hgi := hg _ (List.getElem_mem h1)
    have hlo : 0 ≤ s := hinv.lo
    have hhi : s ≤ 9 * (l.take i).length := hinv.hi
    rw [List.length_take] at hhi
    have hsw : IntKind.i64.wrap (s + l[i].target.weight) = s + l[i].target.weight := wrap_i64 (by omega) (by omega)
    have h0w : IntKind.i64.wrap l[i].target.weight = l[i].target.weight := wrap_i64 (by omega) (by omega)
    replace hn := hn h1
    simp [num, rvPeers, h1, e1, rvPeer, tx]
    refine callS_val rfl rfl (.inl rfl) (c_l07Ready l[i] now) ?_
    cases hr : lready now l[i] with
    | false =>
      have hst : chStep now (b, s) l[i] = (b, s) := by simp [chStep, hr]
      rw [hst] at hn
      simp
      refine hn _ ?_ ?_ ?_ ?_ ?_ ?_
      all_goals simp [num, rvPeers, hwi]
    | true =>
      by_cases hs : s = 0
      · have hst : chStep now (b, s) l[i] = (l[i].target.prio, l[i].target.weight) := by simp [chStep, hr, hs]
        rw [hst] at hn
        subst hs
        simp [h1, e1, rvPeer, tx, num]
        refine hn _ ?_ ?_ ?_ ?_ ?_ ?_
        all_goals simp [num, rvPeers, hwi, h0w]
      · have hs' : 0 < s := by omega
        by_cases hgt : b < l[i].target.prio
        · have hst : chStep now (b, s) l[i] = (b, s) := by simp [chStep, hr, hs', hgt]
          rw [hst] at hn
          simp [hs', hgt]
          refine hn _ ?_ ?_ ?_ ?_ ?_ ?_
          all_goals simp [num, rvPeers, hwi]
        · by_cases hlt : l[i].target.prio < b
          · have hst : chStep now (b, s) l[i] = (l[i].target.prio, l[i].target.weight) := by simp [chStep, hr, hgt, hlt]
            rw [hst] at hn
            simp [hs, hs', hgt, hlt, h1, e1, rvPeer, tx, num]
            refine hn _ ?_ ?_ ?_ ?_ ?_ ?_
            all_goals simp [num, rvPeers, hwi, h0w]
          · have hst : chStep now (b, s) l[i] = (b, s + l[i].target.weight) := by simp [chStep, hr, hgt, hlt, hs]
            rw [hst] at hn
            simp [hs, hs', hgt, hlt, h1, e1, rvPeer, tx, num]
            refine hn _ ?_ ?_ ?_ ?_ ?_ ?_
            all_goals simp [num, rvPeers, hwi, hsw]
  · have e : i = l.length := by omega
    simp
    refine hx e _ ?_ ?_ ?_ ?_ ?_ <;> simp [num, rvPeers]

theorem schoose_l64 {K : Kx (PExit → St → Prop)} (l : List LPeer) (now b left : Int) (hl : l.length ≤ 4) (hg : chGood l) (i : Nat) (hi : i < l.length) (h0 : 0 ≤ left) (h00 : left ≤ 1000000)
    (hr : chMatch now b l[i] = true → left < l[i].target.weight → ∀ st' : St, st'.env 6 = .val (num i) → K.k .ret st')
    (hn : ∀ left', left' = (if chMatch now b l[i] then left - l[i].target.weight else left) → (chMatch now b l[i] = true → ¬ left < l[i].target.weight) → ∀ st' : St, st'.env 0 = .val (rvPeers l) → st'.env 1 = .val (num now) → st'.env 7 = .val (num b) → st'.env 11 = .val (num left') → st'.env 12 = .val (num ((i + 1 : Nat) : Int)) → K.k .normal st') :
    EC Tryz.prog ir119_l64 ⟨envOf [(0, .val (rvPeers l)), (1, .val (num now)), (7, .val (num b)), (11, .val (num left)), (12, .val (num i))], memOf []⟩ (K := K) := by
  unfold ir119_l64
  have e1 := peers_at hi
  rw [List.getD_eq_getElem?_getD] at e1
  have hwi : IntKind.i64.wrap ((i : Int) + 1) = (i : Int) + 1 := wrap_i64 (by omega) (by omega)
  have hgi := hg _ (List.getElem_mem hi)
  have hsw : IntKind.i64.wrap (left - l[i].target.weight) = left - l[i].target.weight := wrap_i64 (by omega) (by omega)
  simp [num, rvPeers, hi, e1, rvPeer, tx]
  refine callS_val rfl rfl (.inl rfl) (c_l07Ready l[i] now) ?_
  cases hrd : lready now l[i] with
  | false =>
    have hm : chMatch now b l[i] = false := by simp [chMatch, hrd]
    rw [hm] at hn
    simp
    refine hn left (by simp) (fun h => by cases h) _ ?_ ?_ ?_ ?_ ?_
    all_goals simp [num, rvPeers, hwi]
  | true =>
    by_cases hp : l[i].target.prio = b
    · have hm : chMatch now b l[i] = true := by simp [chMatch, hrd, hp]
      rw [hm] at hn hr
      by_cases hlt : left < l[i].target.weight
      · simp [hi, e1, hp, hlt, rvPeer, tx, num]
        refine hr rfl hlt _ ?_
        simp [num]
      · simp [hi, e1, hp, hlt, rvPeer, tx, num]
        refine hn (left - l[i].target.weight) (by simp) (fun _ => hlt) _ ?_ ?_ ?_ ?_ ?_
        all_goals simp [num, rvPeers, hwi, hsw]
    · have hm : chMatch now b l[i] = false := by simp [chMatch, hrd, hp]
      rw [hm] at hn
      simp [hi, e1, hp, rvPeer, tx, num]
      refine hn left (by simp) (fun h => by cases h) _ ?_ ?_ ?_ ?_ ?_
      all_goals simp [num, rvPeers, hwi]

theorem c_l07Choose (l : List LPeer) (now draw : Int) (hl : l.length ≤ 4) (hg : chGood l) (hd : 0 ≤ draw ∧ draw ≤ 1000000) : CallOK Tryz.prog 119 [.val (rvPeers l), .val (num now), .val (num draw)] (.ret (.val (num (lchoose l now draw))) []) [] := by
  refine call_val mixed ok119 rfl (fun _ => rfl) ?_
  unfold ir119
  rw [evalC_intro]
  have hall := chInv_all (now := now) hg
  unfold lchoose
  simp [initSt, avPVs, avPV, avBoxesL, avBoxes, rvPeers, num]
  refine loop_EC (X := Nat) (fun i => ⟨envOf [(0, .val (rvPeers l)), (1, .val (num now)), (2, .val (num draw)), (7, .val (num (chAcc now (l.take i)).1)), (8, .val (num (chAcc now (l.take i)).2)), (9, .val (num i))], memOf []⟩) (fun i => i ≤ l.length) (fun i => l.length - i) 0 (Le.mk _ _ ?_ ?_) (Nat.zero_le _) ?_
  · simp [upd, rvPeers, num, chAcc, PV.kill]
  · simp
  · intro i hi
    refine schoose_l13 l now draw (chAcc now (l.take i)).1 (chAcc now (l.take i)).2 hl hg i hi (chInv_take hg i hi) (fun hil st' q0 q1 q2 q7 q8 => ?_) (fun h1 st' q0 q1 q2 q7 q8 q9 => ?_)
    · subst hil
      rw [List.take_length] at q7 q8
      generalize chAcc now l = a at *
      obtain ⟨b, s⟩ := a
      by_cases hs : s = 0
      · subst hs
        simp [q0, q1, q2, q7, q8, num]
      · have hpos : 0 < s := by have := hall.lo; simp only at this; omega
        have hr := tmod_range hd.1 hpos
        have hsum := hall.sum
        simp only [if_neg hs] at hsum
        have hle : draw.tmod s ≤ 1000000 := by
          have := hall.hi
          simp only at this
          omega
        simp [q0, q1, q2, q7, q8, num, hs]
        refine loop_EC (X := Nat × Int) (fun x => ⟨envOf [(0, .val (rvPeers l)), (1, .val (num now)), (7, .val (num b)), (11, .val (num x.2)), (12, .val (num x.1))], memOf []⟩) (fun x => x.1 ≤ l.length ∧ 0 ≤ x.2 ∧ x.2 ≤ 1000000 ∧ x.2 < chSum now b (l.drop x.1) ∧ chPick now b (l.drop x.1) x.2 x.1 = chPick now b l (draw.tmod s) 0) (fun x => l.length - x.1) (0, draw.tmod s) (Le.mk _ _ ?_ ?_) ⟨Nat.zero_le _, hr.1, hle, by simp; omega, rfl⟩ ?_
        · simp [upd, rvPeers, num, PV.kill, q0, q1, q7]
        · simp
        · rintro ⟨j, left⟩ ⟨hj, hl0, hl1, hls, hp⟩
          have hj1 : j < l.length := by
            rcases Nat.lt_or_ge j l.length with h | h
            · exact h
            · rw [List.drop_eq_nil_of_le h] at hls
              simp [chSum] at hls
              simp only at hl0
              omega
          simp only at hj hl0 hl1 hls hp
          rw [chPick_drop now b hj1] at hp
          rw [chSum_drop now b hj1] at hls
          refine schoose_l64 l now b left hl hg j hj1 hl0 hl1 (fun hm hlt st' q6 => ?_) (fun left' hl' hnl st' r0 r1 r7 r11 r12 => ?_)
          · rw [if_pos hm, if_pos hlt] at hp
            simp [q6, ← hp, num, hs]
          · simp
            have hgj := hg _ (List.getElem_mem hj1)
            refine LoopNext.mk (j + 1, left') ⟨hj1, ?_, ?_, ?_, ?_⟩ (by show l.length - (j + 1) < l.length - j; omega) (Le.mk _ _ ?_ ?_)
            · show 0 ≤ left'
              cases hm : chMatch now b l[j] with
              | true => have := hnl hm; rw [hm] at hl'; simp at hl'; omega
              | false => rw [hm] at hl'; simp at hl'; omega
            · show left' ≤ 1000000
              cases hm : chMatch now b l[j] with
              | true => have := hnl hm; rw [hm] at hl'; simp at hl'; omega
              | false => rw [hm] at hl'; simp at hl'; omega
            · show left' < chSum now b (l.drop (j + 1))
              cases hm : chMatch now b l[j] with
              | true => have := hnl hm; rw [hm] at hl' hls; simp at hl' hls; omega
              | false => rw [hm] at hl' hls; simp at hl' hls; omega
            · show chPick now b (l.drop (j + 1)) left' ((j + 1 : Nat) : Int) = _
              rw [← hp]
              cases hm : chMatch now b l[j] with
              | true => have := hnl hm; rw [hm] at hl'; simp at hl'; simp [hl', this]
              | false => rw [hm] at hl'; simp at hl'; simp [hl']
            · simp [r0, r1, r7, r11, r12]
            · simp
    · simp
      refine LoopNext.mk (i + 1) (by omega) (by omega) (Le.mk _ _ ?_ ?_)
      · have hsn : chAcc now (l.take (i + 1)) = chStep now (chAcc now (l.take i)) l[i] := by
          rw [List.take_add_one, List.getElem?_eq_getElem h1, Option.toList_some, chAcc_snoc]
        simp [q0, q1, q2, q7, q8, q9, hsn]
      · simp

theorem c_specChoose (l : List LPeer) (now draw : Int) (hl : l.length < 1099511627776) (hs : ∀ p ∈ l, p.target.url.length < 1099511627776) : CallOK Tryz.prog 55 [.val (rvPeers l), .val (num now), .val (num draw)] (.ret (wakeRes (lChoose l now draw)) []) [] := by
  refine call_val mixed ok55 rfl (fun _ => rfl) ?_
  unfold ir55
  rw [evalC_intro]
  unfold lChoose
  by_cases h0 : 4096 < l.length
  · have h0' : (4096 : Int) < l.length := by omega
    rw [if_pos h0]
    simp [initSt, avPVs, avPV, avBoxesL, avBoxes, rvPeers, num, h0', wakeRes]
  · have h0' : ¬ (4096 : Int) < l.length := by omega
    rw [if_neg h0]
    simp [initSt, avPVs, avPV, avBoxesL, avBoxes, rvPeers, num, h0']
    refine callS_val rfl rfl (.inl rfl) (c_l07OK l hl hs) ?_
    cases hok : lpeersOK l with
    | false => simp [num, wakeRes]
    | true =>
      simp [num]
      refine callS_val rfl rfl (.inl rfl) (c_l01In .i64 now 0 1000000) ?_
      by_cases hn : 0 ≤ now ∧ now ≤ 1000000
      · rw [decide_eq_true hn]
        simp [num]
        refine callS_val rfl rfl (.inl rfl) (c_l01In .i64 draw 0 1000000) ?_
        by_cases hd : 0 ≤ draw ∧ draw ≤ 1000000
        · rw [decide_eq_true hd, if_pos rfl, if_pos ⟨hn, hd⟩]
          obtain ⟨g1, g2⟩ := chGood_of hok
          simp [num, rvPeers]
          refine callS_val rfl rfl (.inl rfl) (c_l07Choose l now draw g1 g2 hd) ?_
          by_cases hc : lchoose l now draw < 0
          · rw [if_pos hc]
            simp [num, wakeRes, hc]
          · rw [if_neg hc]
            simp [num, wakeRes, hc]
        · rw [decide_eq_false hd, if_pos rfl, if_neg (fun h => hd h.2)]
          simp [num, wakeRes]
      · rw [decide_eq_false hn, if_pos rfl, if_neg (fun h => hn h.1)]
        simp [num, wakeRes]
end Go.Proofs
end

/- What the marks of peers come to. -/
section
set_option maxRecDepth 100000
set_option linter.unusedVariables false
set_option linter.unusedSectionVars false
set_option linter.unusedSimpArgs false
namespace Go.Proofs
open Go.PW Go.KP
attribute [local simp] RV.cells RV.one PV.cells PV.solid PV.one vals? allVal mkAgg setAt RV.ofCells elems PV.killL
variable [GF]

theorem lmkF_len : ∀ (k : Nat) (out : Tx), (lmkF k out).length ≤ k + out.length := by
  intro k
  induction k using Nat.strongRecOn with
  | ind k ih =>
    intro out
    by_cases h : k = 0
    · subst h; rw [lmkF_zero]; omega
    · rw [lmkF_pos h]
      have := ih (k / 10) (by omega) (UInt8.ofNat (48 + k % 10) :: out)
      simp only [List.length_cons] at this
      omega

theorem c_markText (k : Nat) (hk : k < 1099511627776) : CallOK Tryz.prog 71 [.val (num k)] (.ret (.val (tx (lmk k))) []) [] := by
  refine call_val mixed ok71 rfl (fun _ => rfl) ?_
  unfold ir71
  rw [evalC_intro]
  unfold lmk
  by_cases h0 : k = 0
  · subst h0
    simp [initSt, avPVs, avPV, avBoxesL, avBoxes, num, tx, bs]
  · have h0' : ¬ (k : Int) ≤ 0 := by omega
    rw [if_neg h0]
    simp [initSt, avPVs, avPV, avBoxesL, avBoxes, num, h0', h0]
    refine loop_EC (X := Nat × Tx) (fun x => ⟨envOf [(0, .val (num x.1)), (3, .val (tx x.2))], memOf []⟩) (fun x => x.1 ≤ k ∧ x.2.length + x.1 ≤ k ∧ lmkF x.1 x.2 = lmkF k []) (fun x => x.1) (k, []) (Le.mk _ _ ?_ ?_) ⟨Nat.le_refl _, by simp, rfl⟩ ?_
    · simp [upd, num, tx, bs]
    · simp
    · rintro ⟨m, out⟩ ⟨hm, hlen, hF⟩
      simp only at hm hlen hF
      by_cases hz : m = 0
      · subst hz
        rw [lmkF_zero] at hF
        subst hF
        have hlk : 1 + (lmkF k []).length ≤ 9223372036854775807 := by omega
        simp [num, tx, bs_mk, bs_append, bs_size, hlk]
      · have hp : (0 : Int) < (m : Int) := by omega
        have hp2 : 0 < m := by omega
        rw [lmkF_pos hz] at hF
        have g6 : (m : Int).tdiv 10 = ((m / 10 : Nat) : Int) := by rw [Int.tdiv_eq_ediv_of_nonneg (by omega)]; omega
        have g7 : (m : Int).tmod 10 = ((m % 10 : Nat) : Int) := by rw [Int.tmod_eq_emod_of_nonneg (by omega)]; omega
        have ha : m / 10 < m := Nat.div_lt_self (by omega) (by omega)
        have hb : m % 10 < 10 := Nat.mod_lt _ (by omega)
        have hl10 : (UInt8.ofNat (48 + m % 10) :: out).length + m / 10 ≤ k := by simp only [List.length_cons]; omega
        have g8 : IntKind.i64.wrap ((m / 10 : Nat) : Int) = ((m / 10 : Nat) : Int) := wrap_i64 (by omega) (by omega)
        have g4 : IntKind.i64.wrap (48 + ((m % 10 : Nat) : Int)) = 48 + ((m % 10 : Nat) : Int) := wrap_i64 (by omega) (by omega)
        have g5 : IntKind.u8.wrap (48 + ((m % 10 : Nat) : Int)) = 48 + ((m % 10 : Nat) : Int) := wrap_u8 (by omega) (by omega)
        have g9 := byte1 (m % 10)
        generalize m / 10 = a at *
        generalize m % 10 = b at *
        have hsz : 1 + out.length ≤ 9223372036854775807 := by simp only [List.length_cons] at hl10; omega
        simp [initSt, avPVs, avPV, avBoxesL, avBoxes, num, tx, hp, hp2, hz, g6, g7, g8, g4, g5, RV.isU8, g9, bs_size, bs_append]
        refine ⟨hsz, LoopNext.mk (a, UInt8.ofNat (48 + b) :: out) ⟨by omega, hl10, hF⟩ ha (Le.mk _ _ ?_ ?_)⟩
        · simp [num, tx]
        · simp

theorem markp_l6 {K : Kx (PExit → St → Prop)} (xs : List RV) (k i : Nat) (a b c d e f : RV) (hi : i < xs.length) (hk : k < 549755813888) (hl : xs.length < 1099511627776) (hx : xs[i]?.getD .nilptr = .agg [a, b, c, d, e, f])
    (hn : ∀ st' : St, st'.env 0 = .own 900 → st'.env 1 = .val (num ((k + 6 : Nat) : Int)) → st'.env 5 = .val (num ((i + 1 : Nat) : Int)) → st'.mem 900 = .row 67 6 (xs.set i (rvPeer (mkPeer k))) → K.k .normal st') :
    EC Tryz.prog ir29_l6 ⟨envOf [(0, .own 900), (1, .val (num k)), (5, .val (num i))], memOf [(900, .row 67 6 xs)]⟩ (K := K) := by
  unfold ir29_l6
  have s1 : IntKind.i64.wrap ((k : Int) + 1) = (k : Int) + 1 := wrap_i64 (by omega) (by omega)
  have s2 : IntKind.i64.wrap ((k : Int) + 1 + 1) = (k : Int) + 1 + 1 := wrap_i64 (by omega) (by omega)
  have s3 : IntKind.i64.wrap ((k : Int) + 1 + 1 + 1) = (k : Int) + 1 + 1 + 1 := wrap_i64 (by omega) (by omega)
  have s4 : IntKind.i64.wrap ((k : Int) + 1 + 1 + 1 + 1) = (k : Int) + 1 + 1 + 1 + 1 := wrap_i64 (by omega) (by omega)
  have s5 : IntKind.i64.wrap ((k : Int) + 1 + 1 + 1 + 1 + 1) = (k : Int) + 1 + 1 + 1 + 1 + 1 := wrap_i64 (by omega) (by omega)
  have s6 : IntKind.i64.wrap ((k : Int) + 1 + 1 + 1 + 1 + 1 + 1) = (k : Int) + 1 + 1 + 1 + 1 + 1 + 1 := wrap_i64 (by omega) (by omega)
  have si : IntKind.i64.wrap ((i : Int) + 1) = (i : Int) + 1 := wrap_i64 (by omega) (by omega)
  have hm : ((((k : Int) + 1 + 1 + 1 + 1 + 1).tmod 3 == 0)) = decide ((k + 5) % 3 = 0) := by
    rw [Int.tmod_eq_emod_of_nonneg (by omega)]
    rw [Bool.eq_iff_iff]
    simp only [beq_iff_eq, decide_eq_true_eq]
    omega
  have hx' : xs[i] = .agg [a, b, c, d, e, f] := by rw [← hx]; simp [List.getElem?_eq_getElem hi]
  have hmk := c_markText k (by omega)
  simp [num, hi]
  refine callS_val rfl rfl (.inl rfl) hmk ?_
  simp [num, hi, hx, tx]
  refine hn _ ?_ ?_ ?_ ?_
  · simp
  · simp only [evalC_skip, evalC_reg, evalC_draw, evalC_seq, evalC_cond, evalC_block, evalC_exit, evalC_ret, then_normal, then_exit, then_ret, then_pan, inBlock_normal, inBlock_ret, inBlock_pan, inBlock_exit, condS_bool, evalOps_nil, evalOps_cons, evalX_nil, evalX_cons, guardS_none, guardS_some, setD_some, setD_none, ev_t, ev_k, Option.getD_some, Option.getD_none, stepE_mov, stepE_pick, stepE_alloc, stepE_box, stepE_build, stepE_store, stepE_app, stepE_nilck, stepE_bin, stepE_eqb, stepE_eqs, stepE_un, stepE_conv, stepE_faddr, stepE_fld, stepE_load, stepE_iaddr, stepE_idx, stepE_slc, stepE_ext, stepE_lens, stepE_len, stepE_tostr, stepE_mkfn, stepE_ifc, stepE_mn, stepE_mx, stepE_mks, stepE_isnil, stepE_lit, stepE_call, stepE_callv, stepX_mov, stepX_nilck, stepX_bin, stepX_eqb, stepX_eqs, stepX_un, stepX_conv, stepX_faddr, stepX_fld, stepX_load, stepX_iaddr, stepX_idx, stepX_slc, stepX_ext, stepX_lens, stepX_len, stepX_tostr, stepX_mkfn, stepX_ifc, stepX_mn, stepX_mx, stepX_pick, stepX_build, stepX_lit, stepX_call, stepX_callv, binS_int, binS_str, binI_add, binI_sub, binI_mul, binI_quo, binI_rem, binI_eql, binI_neq, binI_lss, binI_leq, binI_gtr, binI_geq, binStr_add, binStr_eql, binStr_neq, unS_not, unS_neg, upd_app, envOf_nil, envOf_cons, memOf_nil, memOf_cons, RetP_ret, RetP_normal, resP_t, resP_tt, fin_env, frz_val, frz_emp, frz_own, pl_val, pl_emp, kill_val, kill_own, kill_ptr, kill_emp, kill_elt, kill_at, kill_undef, kill_fn, kill_skip, killM_row, killM_box, killM_dead, Kx_k, fillP_nil, fillP_cons, slc_lo, slc_hi, slc_lohi, slcl_lo, slcl_hi, Option.map_some, Option.map_none, iteP_true, iteP_false, onBool_val, onBool_skip, nilck_ptr, nilck_elt, nilck_at, nilck_fn, eqb_val, eqs_val, conv_val, faddr_ptr, faddr_elt, faddr_at, fld_val, fld_agg, load_ptr, loadBox_box, load_elt, loadRow_row, load_at, iaddr_lst, iaddr_own, iaddrRow_row, idx_val, ext_tup, lens_val, len_val, len_emp, len_own, lenRow_row, tostr_val, tostr_emp, tostr_own, tostrRow_row, ifc_val, mn_val, mx_val, lit_some, fn_fn, mks_val, isnil_nilif, isnil_ifc, isnil_emp, isnil_list, isnil_own, isnilRow_row, store_ptrK, storeBox_box, store_eltK, storeRow_row, add_some, app_own, app_emp, appRow_row, addOf_list, addOf_emp, addOf_own, rowOf_row, upd_app, s1, s2, s3, s4, s5, s6, num]
    simp
    omega
  · simp [num, si]
  · simp [hi, hx, hx']
    have c1 : ((k + 1 : Nat) : Int) = (k : Int) + 1 := by omega
    have c2 : ((k + 2 : Nat) : Int) = (k : Int) + 1 + 1 := by omega
    have c3 : ((k + 3 : Nat) : Int) = (k : Int) + 1 + 1 + 1 := by omega
    have c4 : ((k + 4 : Nat) : Int) = (k : Int) + 1 + 1 + 1 + 1 := by omega
    simp only [s1, s2, s3, s4, s5, hm, rvPeer, mkPeer, num, tx, c1, c2, c3, c4]

theorem c_markPeerS (l : List LPeer) (k : Nat) (hk : k < 1048577) (hl : l.length < 68719476736) : CallRow Tryz.prog 29 (.own 0) 67 6 (l.map rvPeer) [.val (num k)] (num ((k + 6 * l.length : Nat) : Int)) ((mkPeers l.length k).map rvPeer) := by
  refine callrow_ok mixed ok29 rfl ?_
  unfold ir29
  rw [evalC_intro]
  simp [initSt, avPVs, avPV, avBoxesL, avBoxes, initRow, PV.nm, num]
  refine loop_EC (X := Nat) (fun i => ⟨envOf [(0, .own 900), (1, .val (num ((k + 6 * i : Nat) : Int))), (5, .val (num i))], memOf [(900, .row 67 6 ((markUp l k i).map rvPeer))]⟩) (fun i => i ≤ l.length) (fun i => l.length - i) 0 (Le.mk _ _ ?_ ?_) (Nat.zero_le _) ?_
  · simp [upd, num, PV.kill]
  · simp [markUp_zero]
  · intro i hi
    have hml := markUp_len l k i hi
    by_cases h1 : i < l.length
    · have hmi : i < (markUp l k i).length := by omega
      have hset := markUp_set l k i h1
      refine markp_l6 ((markUp l k i).map rvPeer) (k + 6 * i) i (tx (markUp l k i)[i].target.url) (num (markUp l k i)[i].target.prio) (num (markUp l k i)[i].target.weight) (num (markUp l k i)[i].fails) (num (markUp l k i)[i].retry) (.bool (markUp l k i)[i].gone) (by simpa using hmi) (by omega) (by simp; omega) (by simp [List.getElem?_eq_getElem hmi, rvPeer]) (fun st' q0 q1 q5 qm => ?_)
      simp
      refine LoopNext.mk (i + 1) h1 (by omega) (Le.mk _ _ ?_ ?_)
      · simp [q0, q1, q5, num]
        omega
      · rw [← List.map_set, hset] at qm
        simp [qm]
    · have e : i = l.length := by omega
      subst e
      unfold ir29_l6
      simp [num, hml, markUp_all, mkPeers_len]

theorem c_heldPeerS (n k : Nat) (hk : k < 1048577) (hl : n < 68719476736) : CallOK Tryz.prog 30 [.val (rvPeers (mkPeers n k)), .val (num k)] (.ret (.val (num ((k + 6 * n : Nat) : Int))) []) [] := by
  refine call_val mixed ok30 rfl (fun _ => rfl) ?_
  unfold ir30
  rw [evalC_intro]
  have hlen := mkPeers_len n k
  simp [initSt, avPVs, avPV, avBoxesL, avBoxes, num, rvPeers]
  refine loop_EC (X := Nat) (fun i => ⟨envOf [(0, .val (rvPeers (mkPeers n k))), (1, .val (num ((k + 6 * i : Nat) : Int))), (5, .val (num i))], memOf []⟩) (fun i => i ≤ n) (fun i => n - i) 0 (Le.mk _ _ ?_ ?_) (Nat.zero_le _) ?_
  · simp [upd, num, rvPeers, PV.kill]
  · simp
  · intro i hi
    unfold ir30_l6
    by_cases h1 : i < n
    · have hi' : i < (mkPeers n k).length := by omega
      have e1 := peers_at hi'
      rw [List.getD_eq_getElem?_getD, mkPeers_at h1] at e1
      have hat : (mkPeers n k)[i] = mkPeer (k + 6 * i) := mkPeers_at h1
      generalize hj : k + 6 * i = j at *
      have hjj : j < 1099511627776 := by omega
      have s1 : IntKind.i64.wrap ((j : Int) + 1) = ((j + 1 : Nat) : Int) := by rw [wrap_i64 (by omega) (by omega)]; omega
      have s2 : IntKind.i64.wrap (((j + 1 : Nat) : Int) + 1) = ((j + 2 : Nat) : Int) := by rw [wrap_i64 (by omega) (by omega)]; omega
      have s3 : IntKind.i64.wrap (((j + 2 : Nat) : Int) + 1) = ((j + 3 : Nat) : Int) := by rw [wrap_i64 (by omega) (by omega)]; omega
      have s4 : IntKind.i64.wrap (((j + 3 : Nat) : Int) + 1) = ((j + 4 : Nat) : Int) := by rw [wrap_i64 (by omega) (by omega)]; omega
      have s5 : IntKind.i64.wrap (((j + 4 : Nat) : Int) + 1) = ((j + 5 : Nat) : Int) := by rw [wrap_i64 (by omega) (by omega)]; omega
      have s6 : IntKind.i64.wrap (((j + 5 : Nat) : Int) + 1) = ((j + 6 : Nat) : Int) := by rw [wrap_i64 (by omega) (by omega)]; omega
      have si : IntKind.i64.wrap ((i : Int) + 1) = ((i + 1 : Nat) : Int) := by rw [wrap_i64 (by omega) (by omega)]; omega
      have hm : ((j + 5 : Nat) : Int).tmod 3 = (((j + 5) % 3 : Nat) : Int) := by rw [Int.tmod_eq_emod_of_nonneg (by omega)]; omega
      have hd : (((((j + 5) % 3 : Nat) : Int)) = 0) = ((j + 5) % 3 = 0) := by rw [eq_iff_iff]; omega
      have hb : ((((j : Int) + 5) % 3 == 0)) = decide ((j + 5) % 3 = 0) := by
        rw [Bool.eq_iff_iff]
        simp only [beq_iff_eq, decide_eq_true_eq]
        omega
      unfold mkPeer at e1 hat
      generalize ((j + 1 : Nat) : Int) = j1 at *
      generalize ((j + 2 : Nat) : Int) = j2 at *
      generalize ((j + 3 : Nat) : Int) = j3 at *
      generalize ((j + 4 : Nat) : Int) = j4 at *
      generalize hj5 : ((j + 5 : Nat) : Int) = j5 at *
      simp [num, rvPeers, hlen, h1, e1, hat, rvPeer, tx]
      refine callX_val rfl rfl (.inl rfl) (c_markText j (by omega)) ?_
      simp [num, rvPeers, hlen, h1, e1, hat, rvPeer, tx, s1, s2, s3, s4, s5, s6, si, hm, hb]
      refine LoopNext.mk (i + 1) h1 (by omega) (Le.mk _ _ ?_ ?_)
      · simp [num, rvPeers, s6, si]
        omega
      · simp
    · have e : i = n := by omega
      subst e
      simp [num, rvPeers, mkPeers_len]
end Go.Proofs
end

/- What the spec's functions on one peer come to; the law's copies as rows. -/
section
set_option maxRecDepth 100000
set_option linter.unusedVariables false
set_option linter.unusedSectionVars false
set_option linter.unusedSimpArgs false
namespace Go.Proofs
open Go.PW Go.KP
attribute [local simp] RV.cells RV.one PV.cells PV.solid PV.one vals? allVal mkAgg setAt RV.ofCells elems PV.killL
variable [GF]

theorem flat_rvPeer (x : LPeer) : (rvPeer x).flat = true := rfl
theorem flat_rvPeers (l : List LPeer) : ∀ x ∈ l.map rvPeer, x.flat = true := fun x hx => by
  obtain ⟨y, _, rfl⟩ := List.mem_map.1 hx
  exact flat_rvPeer y
theorem one_rvPeers (l : List LPeer) : ∀ x ∈ l.map rvPeer, x.cells.all RV.one = true := fun x hx => by
  obtain ⟨y, _, rfl⟩ := List.mem_map.1 hx
  rfl

theorem c_toPeerS_own (l : List LPeer) (hl : l.length < 1099511627776) : CallOK Tryz.prog 26 [.val (rvPeers l)] (.ret (.own 0) [⟨67, 6, l.map rvPeer⟩]) [] := by
  refine call_mk (mk := fun i => .own i) mixed ok26 rfl (fun _ => rfl) ?_
  unfold ir26
  rw [evalC_intro]
  simp [initSt, avPVs, avPV, avBoxesL, avBoxes, rvPeers, num, vals?]
  refine ⟨by omega, by omega, ?_⟩
  refine loop_EC (X := Nat) (fun i => ⟨envOf [(0, .val (rvPeers l)), (3, .own 7), (4, .val (num i))], memOf [(7, .row 67 6 (peersUp l i))]⟩) (fun i => i ≤ l.length) (fun i => l.length - i) 0 (Le.mk _ _ ?_ ?_) ?_ ?_
  · simp [upd, rvPeers, num, PV.kill]
  · simp [upd, zPeer, num, bs, peersUp_zero]
  · simp
  · intro i hi
    have hlen := peersUp_len l i hi
    simp [num, rvPeers, vals?]
    refine iteP_intro (fun h1 => ?_) (fun h1 => ?_)
    · have e1 := peers_at h1
      rw [List.getD_eq_getElem?_getD] at e1
      have e2 := peersUp_at l i h1
      have e3 := peersUp_set l i h1
      have e4 : (peersUp l i)[i]'(by omega) = zPeer := by rw [← e2]; simp [List.getElem?_eq_getElem (show i < (peersUp l i).length by omega)]
      simp [num, rvPeers, h1, e1, rvPeer, tx, vals?, hlen]
      refine callS_val rfl rfl (.inl rfl) (c_toPeer l[i]) ?_
      simp [num, rvPeers, h1, e1, e2, rvPeer, tx, vals?, hlen, zPeer]
      refine LoopNext.mk (i + 1) (by omega) (by omega) (Le.mk _ _ ?_ ?_)
      · simp [rvPeers, num]; exact wrap_i64 (by omega) (by omega)
      · rw [← e3]
        simp [rvPeer, num, tx, e4, zPeer]
    · have e1 : i = l.length := by omega
      subst e1
      simp [num, rvPeers, peersUp_all]

theorem c_l07Ask (l : List LPeer) (k : Int) (hl : l.length < 1099511627776) (hs : ∀ p ∈ l, p.target.url.length < 1099511627776) : CallOK Tryz.prog 79 [.val (rvPeers l), .val (num k)] (.ret (.val (num (lask l k))) []) [] := by
  refine call_val mixed ok79 rfl (fun _ => rfl) ?_
  unfold ir79
  rw [evalC_intro]
  have hw : IntKind.i64.wrap ((l.length : Int) - 1) = (l.length : Int) - 1 := wrap_i64 (by omega) (by omega)
  unfold lask
  by_cases h0 : 4096 < l.length
  · have h0' : (4096 : Int) < l.length := by omega
    rw [if_pos h0]
    simp [initSt, avPVs, avPV, avBoxesL, avBoxes, rvPeers, num, h0']
  · have h0' : ¬ (4096 : Int) < l.length := by omega
    rw [if_neg h0]
    simp [initSt, avPVs, avPV, avBoxesL, avBoxes, rvPeers, num, h0']
    refine callS_val rfl rfl (.inl rfl) (c_l07OK l hl hs) ?_
    cases hok : lpeersOK l with
    | false => simp [num]
    | true =>
      simp [num, rvPeers, hw]
      refine callS_val rfl rfl (.inl rfl) (c_l01In .i64 k 0 ((l.length : Int) - 1)) ?_
      by_cases hk : 0 ≤ k ∧ k ≤ (l.length : Int) - 1
      · rw [decide_eq_true hk, if_pos hk]
        simp [num]
      · rw [decide_eq_false hk, if_neg hk]
        simp [num]

theorem c_l07Put (l : List LPeer) (i : Nat) (x : LPeer) (hi : i < l.length) (hl : l.length ≤ 4096) : CallOK Tryz.prog 157 [.val (rvPeers l), .val (num i), .val (rvPeer x)] (.ret (.val (rvPeers (l.set i x))) []) [] := by
  refine call_val mixed ok157 rfl (fun _ => rfl) ?_
  unfold ir157
  rw [evalC_intro]
  have h1 := one_rvPeers l
  have e1 := peers_at hi
  rw [List.getD_eq_getElem?_getD] at e1
  have e2 : l[i]? = some l[i] := List.getElem?_eq_getElem hi
  simp [initSt, avPVs, avPV, avBoxesL, avBoxes, rvPeers, num, rvPeer, tx, allVal, e2, frzOf, hi]
  omega

theorem c_l07Works (l : List LPeer) (i : Nat) (hi : i < l.length) (hl : l.length ≤ 4096) : CallOK Tryz.prog 80 [.val (rvPeers l), .val (num i)] (.ret (.val (rvPeers (l.set i (pworks l[i])))) []) [] := by
  refine call_val mixed ok80 rfl (fun _ => rfl) ?_
  unfold ir80
  rw [evalC_intro]
  have e1 := peers_at hi
  rw [List.getD_eq_getElem?_getD] at e1
  have e2 : l[i]? = some l[i] := List.getElem?_eq_getElem hi
  simp [initSt, avPVs, avPV, avBoxesL, avBoxes, rvPeers, num, rvPeer, tx, allVal, e2, hi]
  refine callS_val rfl rfl (.inl rfl) (c_l07Put l i (pworks l[i]) hi hl) ?_
  simp [rvPeers, num]

theorem c_specPW_err (l : List LPeer) (k c : Int) (hc : lask l k = c) (h0 : c ≠ 0) (hl : l.length < 1099511627776) (hs : ∀ p ∈ l, p.target.url.length < 1099511627776) : CallOK Tryz.prog 25 [.val (rvPeers l), .val (num k)] (.ret (.tup [.val (rvPeers []), .val (num c)]) []) [] := by
  refine call_val mixed ok25 rfl (fun _ => rfl) ?_
  unfold ir25
  rw [evalC_intro]
  by_cases h : 4096 < l.length
  · have h' : (4096 : Int) < l.length := by omega
    have : c = 2 := by rw [← hc]; unfold lask; rw [if_pos h]
    subst this
    simp [initSt, avPVs, avPV, avBoxesL, avBoxes, rvPeers, num, h', frzOf]
  · have h' : ¬ (4096 : Int) < l.length := by omega
    simp [initSt, avPVs, avPV, avBoxesL, avBoxes, rvPeers, num, h']
    have hA := c_l07Ask l k hl hs
    rw [hc] at hA
    refine callS_val rfl rfl (.inl rfl) hA ?_
    simp [rvPeers, num, h0, frzOf]

theorem c_specPW_ok (l : List LPeer) (i : Nat) (hi : i < l.length) (hc : lask l i = 0) (hl : l.length ≤ 4096) (hs : ∀ p ∈ l, p.target.url.length < 1099511627776) : CallOK Tryz.prog 25 [.val (rvPeers l), .val (num i)] (.ret (.tup [.val (rvPeers (l.set i (pworks l[i]))), .val (num 0)]) []) [] := by
  refine call_val mixed ok25 rfl (fun _ => rfl) ?_
  unfold ir25
  rw [evalC_intro]
  have h' : ¬ (4096 : Int) < l.length := by omega
  simp [initSt, avPVs, avPV, avBoxesL, avBoxes, rvPeers, num, h']
  have hA := c_l07Ask l i (by omega) hs
  rw [hc] at hA
  refine callS_val rfl rfl (.inl rfl) hA ?_
  simp [rvPeers, num]
  refine callS_val rfl rfl (.inl rfl) (c_l07Works l i hi hl) ?_
  simp [rvPeers, num]
end Go.Proofs
end
