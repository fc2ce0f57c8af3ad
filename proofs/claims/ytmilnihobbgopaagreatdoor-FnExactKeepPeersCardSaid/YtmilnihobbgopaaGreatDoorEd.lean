/- Ed: merged out of KIj, KIk, KIl. -/
import Derived.Test.YtmilnihobbgopaaGreatDoorEe
import Derived.Test.YtmilnihobbgopaaGreatDoorCd

/- What the program's waking comes to, and the law. -/
section
set_option maxRecDepth 100000
set_option linter.unusedVariables false
set_option linter.unusedSectionVars false
set_option linter.unusedSimpArgs false
namespace Go.Proofs
open Go.PW Go.KP
attribute [local simp] RV.cells RV.one PV.cells PV.solid PV.one vals? allVal mkAgg setAt RV.ofCells elems PV.killL
variable [GH]

theorem iwake_l25 {K : Kx (PExit → St → Prop)} (l : List LPeer) (now : Int) (hl : l.length < 1099511627776) (i : Nat) (hi : i ≤ l.length) 
    (hx : i = l.length → ∀ st' : St, st'.env 7 = .val (num ((lwake now l).getD 0)) → st'.env 8 = .val (.bool (lwake now l).isSome) → K.k (.exit 0) st')
    (hn : i < l.length → ∀ st' : St, st'.env 1 = .val (num now) → st'.env 7 = .val (num ((lwake now (l.take (i + 1))).getD 0)) → st'.env 8 = .val (.bool (lwake now (l.take (i + 1))).isSome) → st'.env 22 = .val (rvPeers l) → st'.env 23 = .val (num l.length) → st'.env 24 = .val (num ((i + 1 : Nat) : Int)) → K.k .normal st') :
    EC Tryz.prog ir56_l25 ⟨envOf [(1, .val (num now)), (7, .val (num ((lwake now (l.take i)).getD 0))), (8, .val (.bool (lwake now (l.take i)).isSome)), (22, .val (rvPeers l)), (23, .val (num l.length)), (24, .val (num i))], memOf []⟩ (K := K) := by
  unfold ir56_l25
  simp [num, rvPeers]
  refine iteP_intro (fun h1 => ?_) (fun h1 => ?_)
  · have e1 := peers_at h1
    rw [List.getD_eq_getElem?_getD] at e1
    have hsn : lwake now (l.take (i + 1)) = wakeStep now (lwake now (l.take i)) l[i] := by
      rw [List.take_add_one, List.getElem?_eq_getElem h1]
      exact lwake_snoc _ _ _
    have hmx : (if now < l[i].retry then l[i].retry else now) = max now l[i].retry := by
      split <;> omega
    have hwi : IntKind.i64.wrap ((i : Int) + 1) = (i : Int) + 1 := wrap_i64 (by omega) (by omega)
    rw [hsn] at hn
    simp [num, rvPeers, h1, e1, rvPeer, tx]
    cases hg : l[i].gone with
    | true =>
      simp
      refine hn h1 _ ?_ ?_ ?_ ?_ ?_ ?_
      · simp [num]
      · simp [num, wakeStep, hg]
      · simp [wakeStep, hg]
      · simp [rvPeers]
      · simp [num]
      · simp [num, hwi]
    | false =>
      cases hacc : lwake now (l.take i) with
      | none =>
        simp [hmx]
        refine hn h1 _ ?_ ?_ ?_ ?_ ?_ ?_
        · simp [num]
        · simp [num, wakeStep, hg, hacc]
        · simp [wakeStep, hg, hacc]
        · simp [rvPeers]
        · simp [num]
        · simp [num, hwi]
      | some b =>
        by_cases hlt : max now l[i].retry < b
        · simp [hmx, hlt]
          refine hn h1 _ ?_ ?_ ?_ ?_ ?_ ?_
          · simp [num]
          · simp [num, wakeStep, hg, hacc, hlt]
          · simp [wakeStep, hg, hacc, hlt]
          · simp [rvPeers]
          · simp [num]
          · simp [num, hwi]
        · simp [hmx, hlt]
          refine hn h1 _ ?_ ?_ ?_ ?_ ?_ ?_
          · simp [num]
          · simp [num, wakeStep, hg, hacc, hlt]
          · simp [wakeStep, hg, hacc, hlt]
          · simp [rvPeers]
          · simp [num]
          · simp [num, hwi]
  · have e : i = l.length := by omega
    subst e
    rw [List.take_length]
    simp
    refine hx rfl _ ?_ ?_ <;> simp [num]

theorem i_NextWake (l : List LPeer) (now : Int) (hl : l.length < 1099511627776) (hs : ∀ p ∈ l, p.target.url.length < 1048577) : CallOK Tryz.prog 56 [.val (rvPeers l), .val (num now)] (.ret (wakeRes (lnextWake l now)) []) [] := by
  refine call_val mixed ok56 rfl (fun _ => rfl) ?_
  unfold ir56
  rw [evalC_intro]
  have hpc := i_peersCode l hl hs
  unfold lnextWake
  have hisn := i_isNow now
  generalize hb : decide (0 ≤ now ∧ now ≤ 1000000) = b at hisn
  simp [initSt, avPVs, avPV, avBoxesL, avBoxes, rvPeers, num]
  refine callS_val rfl rfl (.inl rfl) hpc ?_
  simp [num]
  refine callS_val rfl rfl (.inl rfl) hisn ?_
  simp [num]
  refine callS_val rfl rfl (.inl rfl) (i_unless b 4) ?_
  simp [num, elems]
  refine callS_val rfl rfl (.inr rfl) (i_first [if 4096 < l.length then 2 else if lpeersOK l then 0 else 1, if b then 0 else 4] (by simp)) ?_
  by_cases h : 4096 < l.length
  · rw [if_pos h, if_pos h, lfirst_ne (by decide)]
    simp [num, wakeRes]
  · rw [if_neg h, if_neg h]
    cases hok : lpeersOK l with
    | false =>
      rw [if_neg (by simp), if_neg (by simp), lfirst_ne (by decide)]
      simp [num, wakeRes]
    | true =>
      rw [if_pos rfl, if_pos rfl, lfirst_zero]
      by_cases hn : 0 ≤ now ∧ now ≤ 1000000
      · rw [decide_eq_true hn] at hb
        subst hb
        rw [if_pos hn, if_pos rfl, show lfirst [0] = 0 from rfl]
        simp [num]
        refine loop_EC (X := Nat) (fun i => ⟨envOf [(1, .val (num now)), (7, .val (num ((lwake now (l.take i)).getD 0))), (8, .val (.bool (lwake now (l.take i)).isSome)), (22, .val (rvPeers l)), (23, .val (num l.length)), (24, .val (num i))], memOf []⟩) (fun i => i ≤ l.length) (fun i => l.length - i) 0 (Le.mk _ _ ?_ ?_) (Nat.zero_le _) ?_
        · simp [upd, rvPeers, num, lwake, PV.kill]
        · simp
        · intro i hi
          refine iwake_l25 l now hl i hi (fun hil st' q7 q8 => ?_) (fun hil st' q1 q7 q8 q22 q23 q24 => ?_)
          · simp [q8]
            cases hw : lwake now l with
            | none =>
              simp [num, wakeRes]
            | some n =>
              rw [hw] at q7
              simp [q7, wakeRes, num]
          · simp
            refine LoopNext.mk (i + 1) (by omega) (by omega) (Le.mk _ _ ?_ ?_)
            · simp [q1, q7, q8, q22, q23, q24]
            · simp
      · rw [decide_eq_false hn] at hb
        subst hb
        rw [if_neg hn, if_neg (by simp), lfirst_ne (by decide)]
        simp [num, wakeRes]

theorem lsz_small {l : List LPeer} {left : Int} (h0 : 0 ≤ left) (h1 : left ≤ 1048576) (h : ¬ lsz l left < 0) : l.length ≤ 1048576 ∧ ∀ p ∈ l, p.target.url.length ≤ 1048576 := by
  unfold lsz at h
  split at h
  · exact absurd (by omega) h
  · refine ⟨by omega, fun p hp => ?_⟩
    have := ltot_mem hp
    omega

end Go.Proofs
end

/- What the program's choosing of a peer comes to, and the law. -/
section
set_option maxRecDepth 100000
set_option linter.unusedVariables false
set_option linter.unusedSectionVars false
set_option linter.unusedSimpArgs false
namespace Go.Proofs
open Go.PW Go.KP
attribute [local simp] RV.cells RV.one PV.cells PV.solid PV.one vals? allVal mkAgg setAt RV.ofCells elems PV.killL
variable [GH]

theorem ichoose_l16 {K : Kx (PExit → St → Prop)} (l : List LPeer) (now draw b s : Int) (hl : l.length ≤ 4) (hg : chGood l) (i : Nat) (hi : i ≤ l.length) (hinv : ChInv now (l.take i) (b, s))
    (hx : i = l.length → ∀ st' : St, st'.env 0 = .val (rvPeers l) → st'.env 1 = .val (num now) → st'.env 2 = .val (num draw) → st'.env 7 = .val (num (chI (b, s))) → st'.env 8 = .val (num s) → K.k (.exit 0) st')
    (hn : ∀ h : i < l.length, ∀ st' : St, st'.env 0 = .val (rvPeers l) → st'.env 1 = .val (num now) → st'.env 2 = .val (num draw) → st'.env 7 = .val (num (chI (chStep now (b, s) l[i]))) → st'.env 8 = .val (num (chStep now (b, s) l[i]).2) → st'.env 13 = .val (rvPeers l) → st'.env 14 = .val (num l.length) → st'.env 15 = .val (num ((i + 1 : Nat) : Int)) → K.k .normal st') :
    EC Tryz.prog ir118_l16 ⟨envOf [(0, .val (rvPeers l)), (1, .val (num now)), (2, .val (num draw)), (7, .val (num (chI (b, s)))), (8, .val (num s)), (13, .val (rvPeers l)), (14, .val (num l.length)), (15, .val (num i))], memOf []⟩ (K := K) := by
  unfold ir118_l16
  simp [num, rvPeers]
  refine iteP_intro (fun h1 => ?_) (fun h1 => ?_)
  · have e1 := peers_at h1
    rw [List.getD_eq_getElem?_getD] at e1
    have hwi : IntKind.i64.wrap ((i : Int) + 1) = (i : Int) + 1 := wrap_i64 (by omega) (by omega)
    have hgi := hg _ (List.getElem_mem h1)
    have hlo : 0 ≤ s := hinv.lo
    have hhi : s ≤ 9 * (l.take i).length := hinv.hi
    rw [List.length_take] at hhi
    have hsw : IntKind.i64.wrap (s + l[i].target.weight) = s + l[i].target.weight := wrap_i64 (by omega) (by omega)
    have h0w : IntKind.i64.wrap l[i].target.weight = l[i].target.weight := wrap_i64 (by omega) (by omega)
    replace hn := hn h1
    cases hgo : l[i].gone with
    | true =>
      have hr : lready now l[i] = false := by simp [lready, hgo]
      have hst : chStep now (b, s) l[i] = (b, s) := by simp [chStep, hr]
      rw [hst] at hn
      simp [num, rvPeers, h1, e1, rvPeer, tx, hgo]
      refine hn _ ?_ ?_ ?_ ?_ ?_ ?_ ?_ ?_
      all_goals simp [num, rvPeers, hwi]
    | false =>
      by_cases hre : now < l[i].retry
      · have hr : lready now l[i] = false := by simp [lready, hgo, hre]
        have hst : chStep now (b, s) l[i] = (b, s) := by simp [chStep, hr]
        rw [hst] at hn
        simp [num, rvPeers, h1, e1, rvPeer, tx, hgo, hre]
        refine hn _ ?_ ?_ ?_ ?_ ?_ ?_ ?_ ?_
        all_goals simp [num, rvPeers, hwi]
      · have hr : lready now l[i] = true := by simp [lready, hgo]; omega
        by_cases hs : s = 0
        · have hst : chStep now (b, s) l[i] = (l[i].target.prio, l[i].target.weight) := by simp [chStep, hr, hs]
          have hci : chI (b, s) = 10 := by simp [chI, hs]
          have hcn : chI (l[i].target.prio, l[i].target.weight) = l[i].target.prio := by unfold chI; rw [if_neg]; show ¬ l[i].target.weight = 0; omega
          have hlt : l[i].target.prio < 10 := by omega
          rw [hst, hcn] at hn
          rw [hci]
          subst hs
          simp [num, rvPeers, h1, e1, rvPeer, tx, hgo, hre, hlt]
          refine hn _ ?_ ?_ ?_ ?_ ?_ ?_ ?_ ?_
          all_goals simp [num, rvPeers, hwi, h0w]
        · have hs' : 0 < s := by omega
          have hci : chI (b, s) = b := by simp [chI, hs]
          rw [hci]
          by_cases hgt : b < l[i].target.prio
          · have hst : chStep now (b, s) l[i] = (b, s) := by simp [chStep, hr, hs', hgt]
            have hng : ¬ l[i].target.prio < b := by omega
            have hne : ¬ l[i].target.prio = b := by omega
            rw [hst, hci] at hn
            simp [num, rvPeers, h1, e1, rvPeer, tx, hgo, hre, hng, hne]
            refine hn _ ?_ ?_ ?_ ?_ ?_ ?_ ?_ ?_
            all_goals simp [num, rvPeers, hwi]
          · by_cases hlt : l[i].target.prio < b
            · have hst : chStep now (b, s) l[i] = (l[i].target.prio, l[i].target.weight) := by simp [chStep, hr, hgt, hlt]
              have hcn : chI (l[i].target.prio, l[i].target.weight) = l[i].target.prio := by unfold chI; rw [if_neg]; show ¬ l[i].target.weight = 0; omega
              rw [hst, hcn] at hn
              simp [num, rvPeers, h1, e1, rvPeer, tx, hgo, hre, hlt]
              refine hn _ ?_ ?_ ?_ ?_ ?_ ?_ ?_ ?_
              all_goals simp [num, rvPeers, hwi, h0w]
            · have hst : chStep now (b, s) l[i] = (b, s + l[i].target.weight) := by simp [chStep, hr, hgt, hlt, hs]
              have hcn : chI (b, s + l[i].target.weight) = b := by unfold chI; rw [if_neg]; show ¬ s + l[i].target.weight = 0; omega
              have heq : l[i].target.prio = b := by omega
              rw [hst, hcn] at hn
              simp [num, rvPeers, h1, e1, rvPeer, tx, hgo, hre, hlt, heq]
              refine hn _ ?_ ?_ ?_ ?_ ?_ ?_ ?_ ?_
              all_goals simp [num, rvPeers, hwi, hsw]
  · have e : i = l.length := by omega
    simp
    refine hx e _ ?_ ?_ ?_ ?_ ?_ <;> simp [num, rvPeers]

theorem ichoose_l54 {K : Kx (PExit → St → Prop)} (l : List LPeer) (now b left : Int) (hl : l.length ≤ 4) (hg : chGood l) (i : Nat) (hi : i < l.length) (h0 : 0 ≤ left) (h00 : left ≤ 1000000)
    (hr : chMatch now b l[i] = true → left < l[i].target.weight → ∀ st' : St, st'.env 6 = .val (num i) → K.k .ret st')
    (hn : ∀ left', left' = (if chMatch now b l[i] then left - l[i].target.weight else left) → (chMatch now b l[i] = true → ¬ left < l[i].target.weight) → ∀ st' : St, st'.env 1 = .val (num now) → st'.env 2 = .val (num left') → st'.env 7 = .val (num b) → st'.env 51 = .val (rvPeers l) → st'.env 52 = .val (num l.length) → st'.env 53 = .val (num ((i + 1 : Nat) : Int)) → K.k .normal st') :
    EC Tryz.prog ir118_l54 ⟨envOf [(1, .val (num now)), (2, .val (num left)), (7, .val (num b)), (51, .val (rvPeers l)), (52, .val (num l.length)), (53, .val (num i))], memOf []⟩ (K := K) := by
  unfold ir118_l54
  have e1 := peers_at hi
  rw [List.getD_eq_getElem?_getD] at e1
  have hwi : IntKind.i64.wrap ((i : Int) + 1) = (i : Int) + 1 := wrap_i64 (by omega) (by omega)
  have hgi := hg _ (List.getElem_mem hi)
  have hsw : IntKind.i64.wrap (left - l[i].target.weight) = left - l[i].target.weight := wrap_i64 (by omega) (by omega)
  cases hgo : l[i].gone with
  | true =>
    have hm : chMatch now b l[i] = false := by simp [chMatch, lready, hgo]
    rw [hm] at hn
    simp [num, rvPeers, hi, e1, rvPeer, tx, hgo]
    refine hn left (by simp) (fun h => by cases h) _ ?_ ?_ ?_ ?_ ?_ ?_
    all_goals simp [num, rvPeers, hwi]
  | false =>
    by_cases hre : now < l[i].retry
    · have hm : chMatch now b l[i] = false := by unfold chMatch lready; rw [decide_eq_false (show ¬ l[i].retry ≤ now by omega)]; simp
      rw [hm] at hn
      simp [num, rvPeers, hi, e1, rvPeer, tx, hgo, hre]
      refine hn left (by simp) (fun h => by cases h) _ ?_ ?_ ?_ ?_ ?_ ?_
      all_goals simp [num, rvPeers, hwi]
    · have hrd : lready now l[i] = true := by simp [lready, hgo]; omega
      by_cases hp : l[i].target.prio = b
      · have hm : chMatch now b l[i] = true := by simp [chMatch, hrd, hp]
        rw [hm] at hn hr
        by_cases hlt : left < l[i].target.weight
        · simp [num, rvPeers, hi, e1, rvPeer, tx, hgo, hre, hp, hlt]
          refine hr rfl hlt _ ?_
          simp [num]
        · simp [num, rvPeers, hi, e1, rvPeer, tx, hgo, hre, hp, hlt]
          refine hn (left - l[i].target.weight) (by simp) (fun _ => hlt) _ ?_ ?_ ?_ ?_ ?_ ?_
          all_goals simp [num, rvPeers, hwi, hsw]
      · have hm : chMatch now b l[i] = false := by simp [chMatch, hrd, hp]
        rw [hm] at hn
        simp [num, rvPeers, hi, e1, rvPeer, tx, hgo, hre, hp]
        refine hn left (by simp) (fun h => by cases h) _ ?_ ?_ ?_ ?_ ?_ ?_
        all_goals simp [num, rvPeers, hwi]

theorem i_choose (l : List LPeer) (now draw : Int) (hl : l.length ≤ 4) (hg : chGood l) (hd : 0 ≤ draw ∧ draw ≤ 1000000) : CallOK Tryz.prog 118 [.val (rvPeers l), .val (num now), .val (num draw)] (.ret (.val (num (lchoose l now draw))) []) [] := by
  refine call_val mixed ok118 rfl (fun _ => rfl) ?_
  unfold ir118
  rw [evalC_intro]
  have hall := chInv_all (now := now) hg
  unfold lchoose
  simp [initSt, avPVs, avPV, avBoxesL, avBoxes, rvPeers, num]
  refine loop_EC (X := Nat) (fun i => ⟨envOf [(0, .val (rvPeers l)), (1, .val (num now)), (2, .val (num draw)), (7, .val (num (chI (chAcc now (l.take i))))), (8, .val (num (chAcc now (l.take i)).2)), (13, .val (rvPeers l)), (14, .val (num l.length)), (15, .val (num i))], memOf []⟩) (fun i => i ≤ l.length) (fun i => l.length - i) 0 (Le.mk _ _ ?_ ?_) (Nat.zero_le _) ?_
  · simp [upd, rvPeers, num, chAcc, chI, PV.kill]
  · simp
  · intro i hi
    refine ichoose_l16 l now draw (chAcc now (l.take i)).1 (chAcc now (l.take i)).2 hl hg i hi (chInv_take hg i hi) (fun hil st' q0 q1 q2 q7 q8 => ?_) (fun h1 st' q0 q1 q2 q7 q8 q13 q14 q15 => ?_)
    · subst hil
      rw [List.take_length] at q7 q8
      generalize chAcc now l = a at *
      obtain ⟨b, s⟩ := a
      by_cases hs : s = 0
      · subst hs
        simp [q0, q1, q2, q7, q8, num]
      · have hpos : 0 < s := by have := hall.lo; simp only at this; omega
        have hr := tmod_range hd.1 hpos
        have hle : draw.tmod s ≤ 1000000 := by
          have := hall.hi
          simp only at this
          omega
        have hci : chI (b, s) = b := by simp [chI, hs]
        rw [hci] at q7
        simp [q0, q1, q2, q7, q8, num, hs, rvPeers]
        refine loop_EC (X := Nat × Int) (fun x => ⟨envOf [(1, .val (num now)), (2, .val (num x.2)), (7, .val (num b)), (51, .val (rvPeers l)), (52, .val (num l.length)), (53, .val (num x.1))], memOf []⟩) (fun x => x.1 ≤ l.length ∧ 0 ≤ x.2 ∧ x.2 ≤ 1000000 ∧ chPick now b (l.drop x.1) x.2 x.1 = chPick now b l (draw.tmod s) 0) (fun x => l.length - x.1) (0, draw.tmod s) (Le.mk _ _ ?_ ?_) ⟨Nat.zero_le _, hr.1, hle, rfl⟩ ?_
        · simp [upd, rvPeers, num, PV.kill, q0, q1, q7]
        · simp
        · rintro ⟨j, left⟩ ⟨hj, hl0, hl1, hp⟩
          simp only at hj hl0 hl1 hp
          rcases Nat.lt_or_ge j l.length with hj1 | hj1
          · rw [chPick_drop now b hj1] at hp
            refine ichoose_l54 l now b left hl hg j hj1 hl0 hl1 (fun hm hlt st' q6 => ?_) (fun left' hl' hnl st' r1 r2 r7 r51 r52 r53 => ?_)
            · rw [if_pos hm, if_pos hlt] at hp
              simp [q6, ← hp, num, hs]
            · simp
              have hgj := hg _ (List.getElem_mem hj1)
              refine LoopNext.mk (j + 1, left') ⟨hj1, ?_, ?_, ?_⟩ (by show l.length - (j + 1) < l.length - j; omega) (Le.mk _ _ ?_ ?_)
              · show 0 ≤ left'
                cases hm : chMatch now b l[j] with
                | true => have := hnl hm; rw [hm] at hl'; simp at hl'; omega
                | false => rw [hm] at hl'; simp at hl'; omega
              · show left' ≤ 1000000
                cases hm : chMatch now b l[j] with
                | true => have := hnl hm; rw [hm] at hl'; simp at hl'; omega
                | false => rw [hm] at hl'; simp at hl'; omega
              · show chPick now b (l.drop (j + 1)) left' ((j + 1 : Nat) : Int) = _
                rw [← hp]
                cases hm : chMatch now b l[j] with
                | true => have := hnl hm; rw [hm] at hl'; simp at hl'; simp [hl', this]
                | false => rw [hm] at hl'; simp at hl'; simp [hl']
              · simp [r1, r2, r7, r51, r52, r53]
              · simp
          · have e : j = l.length := by omega
            subst e
            rw [List.drop_length] at hp
            unfold ir118_l54
            simp [num, rvPeers, ← hp, chPick]
    · simp
      refine LoopNext.mk (i + 1) (by omega) (by omega) (Le.mk _ _ ?_ ?_)
      · have hsn : chAcc now (l.take (i + 1)) = chStep now (chAcc now (l.take i)) l[i] := by
          rw [List.take_add_one, List.getElem?_eq_getElem h1, Option.toList_some, chAcc_snoc]
        simp [q0, q1, q2, q7, q8, q13, q14, q15, hsn]
      · simp

theorem i_Choose (l : List LPeer) (now draw : Int) (hl : l.length < 1099511627776) (hs : ∀ p ∈ l, p.target.url.length < 1048577) : CallOK Tryz.prog 54 [.val (rvPeers l), .val (num now), .val (num draw)] (.ret (wakeRes (lChoose l now draw)) []) [] := by
  refine call_val mixed ok54 rfl (fun _ => rfl) ?_
  unfold ir54
  rw [evalC_intro]
  have hpc := i_peersCode l hl hs
  unfold lChoose
  have hisn := i_isNow now
  have hisd := i_isNow draw
  generalize hb : decide (0 ≤ now ∧ now ≤ 1000000) = b at hisn
  generalize hd : decide (0 ≤ draw ∧ draw ≤ 1000000) = d at hisd
  simp [initSt, avPVs, avPV, avBoxesL, avBoxes, rvPeers, num]
  refine callS_val rfl rfl (.inl rfl) hpc ?_
  simp [num]
  refine callS_val rfl rfl (.inl rfl) hisn ?_
  cases b with
  | false =>
    have hnn : ¬ ((0 ≤ now ∧ now ≤ 1000000) ∧ (0 ≤ draw ∧ draw ≤ 1000000)) := fun h => by rw [decide_eq_true h.1] at hb; cases hb
    simp [num]
    refine callS_val rfl rfl (.inl rfl) (i_unless false 4) ?_
    simp [num, elems]
    refine callS_val rfl rfl (.inr rfl) (i_first [if 4096 < l.length then 2 else if lpeersOK l then 0 else 1, 4] (by simp)) ?_
    by_cases h : 4096 < l.length
    · rw [if_pos h, if_pos h, lfirst_ne (by decide)]
      simp [num, wakeRes]
    · rw [if_neg h, if_neg h]
      cases hok : lpeersOK l with
      | false =>
        rw [if_neg (by simp), if_neg (by simp), lfirst_ne (by decide)]
        simp [num, wakeRes]
      | true =>
        rw [if_pos rfl, if_pos rfl, lfirst_zero, if_neg hnn, lfirst_ne (by decide)]
        simp [num, wakeRes]
  | true =>
    simp [num]
    refine callS_val rfl rfl (.inl rfl) hisd ?_
    simp [num]
    refine callS_val rfl rfl (.inl rfl) (i_unless d 4) ?_
    simp [num, elems]
    refine callS_val rfl rfl (.inr rfl) (i_first [if 4096 < l.length then 2 else if lpeersOK l then 0 else 1, if d then 0 else 4] (by simp)) ?_
    by_cases h : 4096 < l.length
    · rw [if_pos h, if_pos h, lfirst_ne (by decide)]
      simp [num, wakeRes]
    · rw [if_neg h, if_neg h]
      cases hok : lpeersOK l with
      | false =>
        rw [if_neg (by simp), if_neg (by simp), lfirst_ne (by decide)]
        simp [num, wakeRes]
      | true =>
        rw [if_pos rfl, if_pos rfl, lfirst_zero]
        cases d with
        | false =>
          have hnn : ¬ ((0 ≤ now ∧ now ≤ 1000000) ∧ (0 ≤ draw ∧ draw ≤ 1000000)) := fun h => by rw [decide_eq_true h.2] at hd; cases hd
          rw [if_neg hnn, if_neg (by simp), lfirst_ne (by decide)]
          simp [num, wakeRes]
        | true =>
          have hd' := of_decide_eq_true hd
          rw [if_pos ⟨of_decide_eq_true hb, hd'⟩, if_pos rfl, show lfirst [0] = 0 from rfl]
          obtain ⟨g1, g2⟩ := chGood_of hok
          simp [num, rvPeers]
          refine callS_val rfl rfl (.inl rfl) (i_choose l now draw g1 g2 hd') ?_
          by_cases hc : lchoose l now draw < 0
          · rw [if_pos hc]
            simp [num, wakeRes, hc]
          · rw [if_neg hc]
            simp [num, wakeRes, hc]

end Go.Proofs
end

/- What the program's functions on one peer come to, and the law of PeerWorks. -/
section
set_option maxRecDepth 100000
set_option linter.unusedVariables false
set_option linter.unusedSectionVars false
set_option linter.unusedSimpArgs false
namespace Go.Proofs
open Go.PW Go.KP
attribute [local simp] RV.cells RV.one PV.cells PV.solid PV.one vals? allVal mkAgg setAt RV.ofCells elems PV.killL
variable [GH]

theorem i_peerCode (l : List LPeer) (k : Int) (hl : l.length < 1099511627776) (hs : ∀ p ∈ l, p.target.url.length < 1048577) : CallOK Tryz.prog 82 [.val (rvPeers l), .val (num k)] (.ret (.val (num (lask l k))) []) [] := by
  refine call_val mixed ok82 rfl (fun _ => rfl) ?_
  unfold ir82
  rw [evalC_intro]
  have hw : IntKind.i64.wrap ((l.length : Int) - 1) = (l.length : Int) - 1 := wrap_i64 (by omega) (by omega)
  have hpc := i_peersCode l hl hs
  have hwi := i_within k 0 ((l.length : Int) - 1)
  unfold lask
  generalize hb : decide (0 ≤ k ∧ k ≤ (l.length : Int) - 1) = b at hwi
  simp [initSt, avPVs, avPV, avBoxesL, avBoxes, rvPeers, num]
  refine callS_val rfl rfl (.inl rfl) hpc ?_
  simp [num, rvPeers, hw]
  refine callS_val rfl rfl (.inl rfl) hwi ?_
  simp [num]
  refine callS_val rfl rfl (.inl rfl) (i_unless b 5) ?_
  simp [num, elems]
  refine callS_val rfl rfl (.inr rfl) (i_first [if 4096 < l.length then 2 else if lpeersOK l then 0 else 1, if b then 0 else 5] (by simp)) ?_
  by_cases h : 4096 < l.length
  · rw [if_pos h, if_pos h, lfirst_ne (by decide)]
    simp [num]
  · rw [if_neg h, if_neg h]
    cases hok : lpeersOK l with
    | false =>
      rw [if_neg (by simp), if_neg (by simp), lfirst_ne (by decide)]
      simp [num]
    | true =>
      rw [if_pos rfl, if_pos rfl, lfirst_zero]
      cases b with
      | true =>
        rw [if_pos (of_decide_eq_true hb), if_pos rfl, show lfirst [0] = 0 from rfl]
        simp [num]
      | false =>
        rw [if_neg (of_decide_eq_false hb), if_neg (by simp), lfirst_ne (by decide)]
        simp [num]

theorem i_clone (l : List LPeer) (h0 : l ≠ []) (hl : l.length ≤ 4096) : CallOK Tryz.prog 83 [.val (rvPeers l)] (.ret (.own 0) [⟨67, 6, l.map rvPeer⟩]) [] := by
  refine call_mk (mk := fun i => .own i) mixed ok83 rfl (fun _ => rfl) ?_
  unfold ir83
  rw [evalC_intro]
  have h1 : ∀ x ∈ l, ∀ y ∈ (rvPeer x).cells, y.one = true := fun x _ y hy => by
    simp [rvPeer, RV.cells, tx, num] at hy
    rcases hy with rfl | rfl | rfl | rfl | rfl | rfl <;> rfl
  simp [initSt, avPVs, avPV, avBoxesL, avBoxes, rvPeers, num, h0]
  exact ⟨fun x hx y hy => h1 x hx y hy, by omega, by omega⟩

theorem i_PW_err (l : List LPeer) (k c : Int) (hc : lask l k = c) (h0 : c ≠ 0) (hl : l.length < 1099511627776) (hs : ∀ p ∈ l, p.target.url.length < 1048577) : CallOK Tryz.prog 27 [.val (rvPeers l), .val (num k)] (.ret (.tup [.val (rvPeers []), .val (num c)]) []) [] := by
  refine call_val mixed ok27 rfl (fun _ => rfl) ?_
  unfold ir27
  rw [evalC_intro]
  have hA := i_peerCode l k hl hs
  rw [hc] at hA
  simp [initSt, avPVs, avPV, avBoxesL, avBoxes, rvPeers, num]
  refine callS_val rfl rfl (.inl rfl) hA ?_
  simp [rvPeers, num, h0]

theorem i_PW_ok (l : List LPeer) (i : Nat) (hi : i < l.length) (hc : lask l i = 0) (hl : l.length ≤ 4096) (hs : ∀ p ∈ l, p.target.url.length < 1048577) : CallOK Tryz.prog 27 [.val (rvPeers l), .val (num i)] (.ret (.tup [.own 0, .val (num 0)]) [⟨67, 6, (l.set i (pworks l[i])).map rvPeer⟩]) [] := by
  refine call_mk (mk := fun i => .tup [.own i, .val (num 0)]) mixed ok27 rfl (fun _ => rfl) ?_
  unfold ir27
  rw [evalC_intro]
  have hA := i_peerCode l i (by omega) hs
  rw [hc] at hA
  have e2 : l[i]? = some l[i] := List.getElem?_eq_getElem hi
  have hne : l ≠ [] := fun e => by subst e; simp at hi
  simp [initSt, avPVs, avPV, avBoxesL, avBoxes, rvPeers, num]
  refine callS_val rfl rfl (.inl rfl) hA ?_
  simp [rvPeers, num]
  refine callS_mk rfl rfl rfl (.inl rfl) (i_clone l hne hl) ?_
  simp [rvPeers, num, rowBase, PV.shift, PV.kill, MObj.kill, hi, e2, rvPeer, tx]
  rfl

theorem c_markPeerS_nil (k : Nat) : CallOK Tryz.prog 29 [.val (rvPeers []), .val (num k)] (.ret (.val (num k)) []) [] := by
  refine call_val mixed ok29 rfl (fun _ => rfl) ?_
  unfold ir29
  rw [evalC_intro]
  simp [initSt, avPVs, avPV, avBoxesL, avBoxes, rvPeers, num]
  refine loop_EC (X := Unit) (fun _ => ⟨envOf [(0, .val (rvPeers [])), (1, .val (num k)), (5, .val (num 0))], memOf []⟩) (fun _ => True) (fun _ => 0) () (Le.mk _ _ ?_ ?_) trivial ?_
  · simp [upd, num, rvPeers, PV.kill]
  · simp
  · intro _ _
    unfold ir29_l6
    simp [num, rvPeers]

theorem law_PeerWorks (l : List LPeer) (k : Int) (hl : l.length ≤ 9223372036854775807) (hx : ∀ p ∈ l, p.target.url.length ≤ 9223372036854775807) : CallOK Tryz.prog 5 [.val (rvPeers l), .val (num k)] (.ret (.val (.bool true)) []) [] := by
  refine call_val mixed ok5 rfl (fun _ => rfl) ?_
  unfold ir5
  rw [evalC_intro]
  simp [initSt, avPVs, avPV, avBoxesL, avBoxes, rvPeers, num]
  refine callS_val rfl rfl (.inl rfl) (c_szPeerS l 1048576 (by omega) (by omega) hl hx) ?_
  simp [num]
  refine iteP_intro (fun h => ?_) (fun h => ?_)
  · simp
  · obtain ⟨hl2, hx2⟩ := lsz_small (by omega) (by omega) h
    have hl3 : l.length < 1099511627776 := by omega
    have hs1 : ∀ p ∈ l, p.target.url.length < 1099511627776 := fun p hp => by have := hx2 p hp; omega
    have hs2 : ∀ p ∈ l, p.target.url.length < 1048577 := fun p hp => by have := hx2 p hp; omega
    have hmk := c_markPeerS l 1 (by omega) (by omega)
    have hne1 : ¬ ((1 + 6 * l.length : Nat) : Int) < 0 := by omega
    generalize ((1 + 6 * l.length : Nat) : Int) = m1 at hmk hne1
    by_cases hc : lask l k = 0
    · obtain ⟨g1, g2, g3, g4⟩ := lask_zero hc
      obtain ⟨i, rfl⟩ : ∃ i : Nat, k = i := ⟨k.toNat, by omega⟩
      have hi : i < l.length := by simpa using g4
      have hip := i_PW_ok l i hi hc g1 hs2
      have hsp := c_specPW_ok l i hi hc g1 hs1
      have hrl : (l.set i (pworks l[i])).length = l.length := by simp
      have hmk2 := c_markPeerS (l.set i (pworks l[i])) 1 (by omega) (by omega)
      have hhd := c_heldPeerS l.length 1 (by omega) (by omega)
      rw [hrl] at hmk2
      have hfl := flat_rvPeers (l.set i (pworks l[i]))
      have hrl3 : (l.set i (pworks l[i])).length < 1099511627776 := by omega
      generalize l.set i (pworks l[i]) = r at *
      generalize hm1 : ((1 + 6 * l.length : Nat) : Int) = m2 at *
      have hne2 : ¬ m2 < 0 := by omega
      simp [num]
      refine callS_val rfl rfl (.inl rfl) (c_toPeerS l hl3) ?_
      simp [num, rvPeers]
      refine callS_two rfl rfl (.inl rfl) hsp ?_
      simp [num, rvPeers]
      refine callS_mk rfl rfl rfl (.inl rfl) (c_toPeerS_own l hl3) ?_
      simp [rvPeers, num, rowBase, PV.shift, PV.kill, MObj.kill]
      refine callS_mk rfl rfl rfl (.inr ⟨by simp [PV.flat, PV.flat.go, RV.flat, num], hfl⟩) hip ?_
      simp [rvPeers, num, rowBase, PV.shift, PV.shiftL, PV.kill, MObj.kill]
      refine callS_val rfl rfl (.inr rfl) (c_eqPeerS r hrl3) ?_
      simp [rvPeers, num, rowBase, PV.shift, PV.kill, MObj.kill]
      refine callS_val rfl rfl (.inl rfl) (c_toPeerS l hl3) ?_
      simp [rvPeers, num, rowBase, PV.shift, PV.kill, MObj.kill]
      refine callS_val rfl rfl (.inr rfl) (c_eqPeerS l hl3) ?_
      simp [rvPeers, num, rowBase, PV.shift, PV.kill, MObj.kill]
      refine rowC rfl rfl rfl rfl hmk rfl ?_
      simp [rvPeers, num, rowBase, PV.shift, PV.kill, MObj.kill, hne1, hne2]
      refine callS_val rfl rfl (.inr rfl) (c_eqPeerS r hrl3) ?_
      simp [rvPeers, num, rowBase, PV.shift, PV.kill, MObj.kill, hne1, hne2]
      refine rowC rfl rfl rfl rfl hmk2 rfl ?_
      simp [rvPeers, num, rowBase, PV.shift, PV.kill, MObj.kill, hne1, hne2]
      refine callS_val rfl rfl (.inr rfl) hhd ?_
      simp [rvPeers, num, rowBase, PV.shift, PV.kill, MObj.kill, hne1, hne2]
      refine callS_val rfl rfl (.inl rfl) (c_toPeerS l hl3) ?_
      simp [rvPeers, num, rowBase, PV.shift, PV.kill, MObj.kill]
      refine callS_mk rfl rfl rfl (.inl rfl) hip ?_
      simp [rvPeers, num, rowBase, PV.shift, PV.shiftL, PV.kill, MObj.kill]
      refine callS_val rfl rfl (.inr rfl) (c_eqPeerS r hrl3) ?_
      simp [rvPeers, num, rowBase, PV.shift, PV.kill, MObj.kill]
      refine callS_val rfl rfl (.inr rfl) hhd ?_
      simp [rvPeers, num, rowBase, PV.shift, PV.kill, MObj.kill, hne1, hne2]
    · simp [num]
      refine callS_val rfl rfl (.inl rfl) (c_toPeerS l hl3) ?_
      simp [num, rvPeers]
      refine callS_two rfl rfl (.inl rfl) (c_specPW_err l k _ rfl hc hl3 hs1) ?_
      have hip := i_PW_err l k _ rfl hc hl3 hs2
      generalize lask l k = c at hip hc
      simp [num, rvPeers]
      refine callS_mk rfl rfl rfl (.inl rfl) (c_toPeerS_own l hl3) ?_
      simp [rvPeers, num, rowBase, PV.shift, PV.kill, MObj.kill]
      refine callS_two rfl rfl (.inr (by simp [PV.flat, PV.flat.go, RV.flat, rvPeers, num])) hip ?_
      simp [rvPeers, num, rowBase, PV.shift, PV.kill, MObj.kill]
      refine callS_val rfl rfl (.inl rfl) (c_eqPeerS [] (by simp)) ?_
      simp [rvPeers, num, rowBase, PV.shift, PV.kill, MObj.kill]
      refine callS_val rfl rfl (.inl rfl) (c_toPeerS l hl3) ?_
      simp [rvPeers, num, rowBase, PV.shift, PV.kill, MObj.kill]
      refine callS_val rfl rfl (.inr rfl) (c_eqPeerS l hl3) ?_
      simp [rvPeers, num, rowBase, PV.shift, PV.kill, MObj.kill]
      refine rowC rfl rfl rfl rfl hmk rfl ?_
      simp [rvPeers, num, rowBase, PV.shift, PV.kill, MObj.kill, hne1]
      refine callS_val rfl rfl (.inl rfl) (c_eqPeerS [] (by simp)) ?_
      simp [rvPeers, num, rowBase, PV.shift, PV.kill, MObj.kill, hne1]
      refine callS_val rfl rfl (.inl rfl) (c_markPeerS_nil 1) ?_
      simp [rvPeers, num, rowBase, PV.shift, PV.kill, MObj.kill, hne1]
      refine callS_val rfl rfl (.inl rfl) (c_heldPeerS 0 1 (by omega) (by omega)) ?_
      simp [rvPeers, num, rowBase, PV.shift, PV.kill, MObj.kill, hne1]
      refine callS_val rfl rfl (.inl rfl) (c_toPeerS l hl3) ?_
      simp [rvPeers, num, rowBase, PV.shift, PV.kill, MObj.kill]
      refine callS_two rfl rfl (.inl rfl) hip ?_
      simp [rvPeers, num, rowBase, PV.shift, PV.kill, MObj.kill]
      refine callS_val rfl rfl (.inl rfl) (c_eqPeerS [] (by simp)) ?_
      simp [rvPeers, num, rowBase, PV.shift, PV.kill, MObj.kill]
      refine callS_val rfl rfl (.inl rfl) (c_heldPeerS 0 1 (by omega) (by omega)) ?_
      simp [rvPeers, num, rowBase, PV.shift, PV.kill, MObj.kill]
end Go.Proofs
end
