/- Eh: merged out of IRcc, KSf, KIj, KJc. -/
import Derived.Test.YtaohlnejdphldaaGreatDoorPWv
import Derived.Test.YtaohlnejdphldaaGreatDoorChecked
import Derived.KernelRfl
import Derived.Test.YtaohlnejdphldaaGreatDoorCa
import Derived.Test.YtaohlnejdphldaaGreatDoorBb
import Derived.Test.YtaohlnejdphldaaGreatDoorEe
import Derived.Test.YtaohlnejdphldaaGreatDoorEg
import Derived.Test.YtaohlnejdphldaaGreatDoorAc

/- Functions of the seat as data. MADE BY PROGRAM (print_ir.py). -/
section
set_option maxRecDepth 100000
namespace Go.Proofs
open Go.PW Go.PW.I

/-- spec.DueAt -/
def ir16 : PC := .seq (.reg [o 2 (.box (.t 0)), o 4 (.mov (i 0)), o 5 (.mov (i 0))]) (.seq (.seq (.reg [m 9 1, o 10 (.lens (.t 9)), o 11 (.bin .gtr (.t 10) (i 65536))]) (.cond (.t
 11) (.seq (.reg [o 4 (.mov (i 0)), o 5 (.mov (i 2))]) (.ret)) (.skip))) (.seq (.seq (.reg [o 12 (.load true 8 (.t 2)), o 13 (.call 28 [.t 12]), o 14 (.un .not (.t 13))]) (.cond (.t
 14) (.seq (.reg [o 4 (.mov (i 0)), o 5 (.mov (i 1))]) (.ret)) (.skip))) (.seq (.reg [o 15 (.faddr 0 (.t 2)), l 16 15, m 17 1, o 18 (.call 42 [.t 16, .t 17]), m 6 18]) (.seq (.seq
 (.reg [m 19 6, o 20 (.bin .lss (.t 19) (i 0))]) (.cond (.t 20) (.seq (.reg [o 4 (.mov (i 0)), o 5 (.mov (i 10))]) (.ret)) (.skip))) (.seq (.seq (.reg [o 21 (.faddr 0 (.t 2)), l 22
 21, m 23 6, o 24 (.iaddr 6 (.t 22) (.t 23)), o 25 (.faddr 4 (.t 24)), o 26 (.faddr 0 (.t 25)), l 27 26, o 28 (.len (.t 27)), o 29 (.bin .eql (.t 28) (i 0))]) (.cond (.t 29) (.seq
 (.reg [o 4 (.mov (i 0)), o 5 (.mov (i 5))]) (.ret)) (.skip))) (.seq (.draw [o 31 (.faddr 0 (.t 2)), l 32 31, m 33 6, o 34 (.iaddr 6 (.t 32) (.t 33)), o 35 (.faddr 3 (.t 34)), l 36
 35, o 37 (.faddr 4 (.t 2)), l 38 37, o 39 (.call 43 [.t 36, .t 38]), m 30 39, o 40 (.ext 0 (.t 30)), o 41 (.ext 1 (.t 30)), m 7 40] [m 8 41]) (.seq (.seq (.reg [m 42 8, o 43 (.bin
 .neq (.t 42) (i 0))]) (.cond (.t 43) (.seq (.reg [o 4 (.mov (i 0)), o 5 (.mov (i 15))]) (.ret)) (.skip))) (.seq (.reg [m 44 7, m 4 44, o 5 (.mov (i 0))]) (.ret)))))))))
theorem ok16 : chkFn Tryz.prog 16 ir16 2 [.t 4, .t 5] = true := by kernel_rfl
/-- impl.DueAt$1 -/
def ir49 : PC := .seq (.reg [o 1 (.box (.t 0)), o 2 (.mov F)]) (.seq (.reg [o 3 (.faddr 5 (.t 1)), l 4 3, o 5 (.un .not (.t 4)), m 2 5]) (.ret))
theorem ok49 : chkFn Tryz.prog 49 ir49 1 [.t 2] = true := by kernel_rfl
/-- impl.DueAt -/
def ir17 : PC := .seq (.reg [o 2 (.box (.t 0)), o 4 (.mov (i 0)), o 5 (.mov (i 0))]) (.seq (.seq (.draw [m 9 1, o 10 (.call 45 [.t 9]), o 11 (.load true 8 (.t 2))] [o 12 (.call 34
 [.t 11]), o 13 (.call 46 [.t 12, .k (.val (.int .i64 1))]), o 14 (.lit 3 1 [.t 10, .t 13]), o 15 (.call 44 [.t 14]), m 6 15]) (.seq (.reg [m 16 6, o 17 (.bin .neq (.t 16) (i 0))])
 (.cond (.t 17) (.seq (.reg [m 18 6, o 4 (.mov (i 0)), m 5 18]) (.ret)) (.skip)))) (.seq (.reg [o 19 (.load true 8 (.t 2)), m 20 1, o 21 (.call 47 [.t 19, .t 20]), m 7 21]) (.seq
 (.seq (.reg [m 22 7, o 23 (.bin .lss (.t 22) (i 0))]) (.cond (.t 23) (.seq (.reg [o 4 (.mov (i 0)), o 5 (.mov (i 10))]) (.ret)) (.skip))) (.seq (.reg [o 24 (.faddr 0 (.t 2)), l 25
 24, m 26 7, o 27 (.iaddr 6 (.t 25) (.t 26)), o 28 (.load true 6 (.t 27)), o 8 (.alloc [.val (.str ⟨#[]⟩), .val (.int .i64 0), .emp 3, .emp 6, .emp 4, .emp 1]), n (.store 6 (.t 8)
 (.t 28))]) (.seq (.seq (.reg [o 29 (.faddr 4 (.t 8)), o 30 (.faddr 0 (.t 29)), l 31 30, o 32 (.len (.t 31)), o 33 (.bin .eql (.t 32) (i 0))]) (.cond (.t 33) (.seq (.reg [o 4 (.mov
 (i 0)), o 5 (.mov (i 5))]) (.ret)) (.skip))) (.seq (.seq (.reg [o 34 (.faddr 3 (.t 8)), l 35 34, o 36 (.call 48 [.t 35, .k (.fn 49 [])]), o 37 (.un .not (.t 36))]) (.cond (.t 37)
 (.seq (.reg [o 4 (.mov (i 0)), o 5 (.mov (i 15))]) (.ret)) (.skip))) (.seq (.reg [o 38 (.faddr 3 (.t 8)), l 39 38, o 40 (.faddr 4 (.t 2)), l 41 40, o 42 (.call 50 [.t 39, .t 41]),
 o 43 (.ext 0 (.t 42)), o 44 (.ext 1 (.t 42)), m 4 43, m 5 44]) (.ret))))))))
theorem ok17 : chkFn Tryz.prog 17 ir17 2 [.t 4, .t 5] = true := by kernel_rfl
end Go.Proofs
end

/- What the spec's waking, and the law's looks at peers, come to. -/
section
set_option maxRecDepth 100000
set_option linter.unusedVariables false
set_option linter.unusedSectionVars false
set_option linter.unusedSimpArgs false
namespace Go.Proofs
open Go.PW Go.KP
attribute [local simp] RV.cells RV.one PV.cells PV.solid PV.one vals? allVal mkAgg setAt RV.ofCells elems PV.killL
variable [GF]

def wakeRv (acc : Option Int) : Int := match acc with
  | none => -1
  | some n => n
def wakeRes (r : Int × Int) : PV := .tup [.val (num r.1), .val (num r.2)]

theorem c_specNextWake (l : List LPeer) (now : Int) (hl : l.length < 1099511627776) (hs : ∀ p ∈ l, p.target.url.length < 1099511627776) : CallOK Tryz.prog 43 [.val (rvPeers l), .val (num now)] (.ret (wakeRes (lnextWake l now)) []) [] := by
  refine call_val mixed ok43 rfl (fun _ => rfl) ?_
  unfold ir43
  rw [evalC_intro]
  unfold lnextWake
  by_cases h0 : 4096 < l.length
  · have h0' : (4096 : Int) < l.length := by omega
    rw [if_pos h0]
    simp [initSt, avPVs, avPV, avBoxesL, avBoxes, rvPeers, num, h0', wakeRes]
  · have h0' : ¬ (4096 : Int) < l.length := by omega
    rw [if_neg h0]
    simp [initSt, avPVs, avPV, avBoxesL, avBoxes, rvPeers, num, h0']
    refine callS_val rfl rfl (.inl rfl) (c_l07OK l hl hs) ?_
    cases hok : lpeersOK l with
    | false => simp [num, wakeRes]
    | true =>
      simp [num]
      refine callS_val rfl rfl (.inl rfl) (c_l01In .i64 now 0 1000000) ?_
      by_cases hn : 0 ≤ now ∧ now ≤ 1000000
      · rw [if_pos hn]
        simp [num, hn]
        refine loop_EC (X := Nat) (fun i => ⟨envOf [(0, .val (rvPeers l)), (1, .val (num now)), (6, .val (num (wakeRv (lwake now (l.take i))))), (7, .val (num i))], memOf []⟩) (fun i => i ≤ l.length) (fun i => l.length - i) 0 (Le.mk _ _ ?_ ?_) ?_ ?_
        · simp [upd, rvPeers, num, lwake, wakeRv]
        · simp
        · simp
        · intro i hi
          simp [num, rvPeers]
          refine iteP_intro (fun h1 => ?_) (fun h1 => ?_)
          · have e1 := peers_at h1
            rw [List.getD_eq_getElem?_getD] at e1
            have hsn : lwake now (l.take (i + 1)) = wakeStep now (lwake now (l.take i)) l[i] := by
              rw [List.take_add_one, List.getElem?_eq_getElem h1]
              exact lwake_snoc _ _ _
            have hmx : (if now < l[i].retry then l[i].retry else now) = max now l[i].retry := by
              split <;> omega
            have hnext : ∀ st' : St, st'.env 0 = .val (rvPeers l) → st'.env 1 = .val (num now) → st'.env 6 = .val (num (wakeRv (wakeStep now (lwake now (l.take i)) l[i]))) → st'.env 7 = .val (num ((i : Int) + 1)) →
                ∃ x', x' ≤ l.length ∧ l.length - x' < l.length - i ∧ Le st' ⟨envOf [(0, .val (rvPeers l)), (1, .val (num now)), (6, .val (num (wakeRv (lwake now (l.take x'))))), (7, .val (num x'))], memOf []⟩ := fun st' q1 q2 q3 q4 => by
              refine ⟨i + 1, by omega, by omega, Le.mk _ _ ?_ ?_⟩
              · simp [q1, q2, q4, hsn, q3]
              · simp
            simp [num, rvPeers, h1, e1, rvPeer, tx]
            have hle : ∀ b, lwake now (l.take i) = some b → 0 ≤ b := fun b hb => by have := lwake_le hb; omega
            cases hg : l[i].gone with
            | true =>
              simp
              refine hnext _ ?_ ?_ ?_ ?_
              · simp [rvPeers]
              · simp [num]
              · simp [num, wakeStep, hg]
              · simp [num]; exact wrap_i64 (by omega) (by omega)
            | false =>
              cases hacc : lwake now (l.take i) with
              | none =>
                simp [wakeRv, hmx]
                refine hnext _ ?_ ?_ ?_ ?_
                · simp [rvPeers]
                · simp [num]
                · simp [num, wakeStep, hg, hacc, wakeRv]
                · simp [num]; exact wrap_i64 (by omega) (by omega)
              | some b =>
                have hb := hle b hacc
                have hb' : ¬ b < 0 := by omega
                by_cases hlt : max now l[i].retry < b
                · simp [wakeRv, hmx, hb, hb', hlt]
                  refine hnext _ ?_ ?_ ?_ ?_
                  · simp [rvPeers]
                  · simp [num]
                  · simp [num, wakeStep, hg, hacc, wakeRv, hlt]
                  · simp [num]; exact wrap_i64 (by omega) (by omega)
                · simp [wakeRv, hmx, hb, hb', hlt]
                  refine hnext _ ?_ ?_ ?_ ?_
                  · simp [rvPeers]
                  · simp [num]
                  · simp [num, wakeStep, hg, hacc, wakeRv, hlt]
                  · simp [num]; exact wrap_i64 (by omega) (by omega)
          · have e1 : i = l.length := by omega
            subst e1
            rw [List.take_length]
            cases hacc : lwake now l with
            | none => simp [wakeRv, num, wakeRes]
            | some b =>
              have hb := lwake_le hacc
              have hb' : ¬ b < 0 := by omega
              simp [wakeRv, num, wakeRes, hb']
      · rw [if_neg hn, decide_eq_false hn]
        simp [num, wakeRes]

end Go.Proofs
end

/- What the program's waking comes to. -/
section
set_option maxRecDepth 100000
set_option linter.unusedVariables false
set_option linter.unusedSectionVars false
set_option linter.unusedSimpArgs false
namespace Go.Proofs
open Go.PW Go.KP
attribute [local simp] RV.cells RV.one PV.cells PV.solid PV.one vals? allVal mkAgg setAt RV.ofCells elems PV.killL
variable [GH]

theorem iwake_l25 {K : Kx (PExit → St → Prop)} (l : List LPeer) (now : Int) (hl : l.length < 1099511627776) (i : Nat) (hi : i ≤ l.length) 
    (hx : i = l.length → ∀ st' : St, st'.env 7 = .val (num ((lwake now l).getD 0)) → st'.env 8 = .val (.bool (lwake now l).isSome) → K.k (.exit 0) st')
    (hn : i < l.length → ∀ st' : St, st'.env 1 = .val (num now) → st'.env 7 = .val (num ((lwake now (l.take (i + 1))).getD 0)) → st'.env 8 = .val (.bool (lwake now (l.take (i + 1))).isSome) → st'.env 22 = .val (rvPeers l) → st'.env 23 = .val (num l.length) → st'.env 24 = .val (num ((i + 1 : Nat) : Int)) → K.k .normal st') :
    EC Tryz.prog ir50_l25 ⟨envOf [(1, .val (num now)), (7, .val (num ((lwake now (l.take i)).getD 0))), (8, .val (.bool (lwake now (l.take i)).isSome)), (22, .val (rvPeers l)), (23, .val (num l.length)), (24, .val (num i))], memOf []⟩ (K := K) := by
  unfold ir50_l25
  simp [num, rvPeers]
  refine iteP_intro (fun h1 => ?_) (fun h1 => ?_)
  · have e1 := peers_at h1
    rw [List.getD_eq_getElem?_getD] at e1
    have hsn : lwake now (l.take (i + 1)) = wakeStep now (lwake now (l.take i)) l[i] := by
      rw [List.take_add_one, List.getElem?_eq_getElem h1]
      exact lwake_snoc _ _ _
    have hmx : (if now < l[i].retry then l[i].retry else now) = max now l[i].retry := by
      split <;> omega
    have hwi : IntKind.i64.wrap ((i : Int) + 1) = (i : Int) + 1 := wrap_i64 (by omega) (by omega)
    rw [hsn] at hn
    simp [num, rvPeers, h1, e1, rvPeer, tx]
    cases hg : l[i].gone with
    | true =>
      simp
      refine hn h1 _ ?_ ?_ ?_ ?_ ?_ ?_
      · simp [num]
      · simp [num, wakeStep, hg]
      · simp [wakeStep, hg]
      · simp [rvPeers]
      · simp [num]
      · simp [num, hwi]
    | false =>
      cases hacc : lwake now (l.take i) with
      | none =>
        simp [hmx]
        refine hn h1 _ ?_ ?_ ?_ ?_ ?_ ?_
        · simp [num]
        · simp [num, wakeStep, hg, hacc]
        · simp [wakeStep, hg, hacc]
        · simp [rvPeers]
        · simp [num]
        · simp [num, hwi]
      | some b =>
        by_cases hlt : max now l[i].retry < b
        · simp [hmx, hlt]
          refine hn h1 _ ?_ ?_ ?_ ?_ ?_ ?_
          · simp [num]
          · simp [num, wakeStep, hg, hacc, hlt]
          · simp [wakeStep, hg, hacc, hlt]
          · simp [rvPeers]
          · simp [num]
          · simp [num, hwi]
        · simp [hmx, hlt]
          refine hn h1 _ ?_ ?_ ?_ ?_ ?_ ?_
          · simp [num]
          · simp [num, wakeStep, hg, hacc, hlt]
          · simp [wakeStep, hg, hacc, hlt]
          · simp [rvPeers]
          · simp [num]
          · simp [num, hwi]
  · have e : i = l.length := by omega
    subst e
    rw [List.take_length]
    simp
    refine hx rfl _ ?_ ?_ <;> simp [num]

theorem i_NextWake (l : List LPeer) (now : Int) (hl : l.length < 1099511627776) (hs : ∀ p ∈ l, p.target.url.length < 1048577) : CallOK Tryz.prog 50 [.val (rvPeers l), .val (num now)] (.ret (wakeRes (lnextWake l now)) []) [] := by
  refine call_val mixed ok50 rfl (fun _ => rfl) ?_
  unfold ir50
  rw [evalC_intro]
  have hpc := i_peersCode l hl hs
  unfold lnextWake
  have hisn := i_isNow now
  generalize hb : decide (0 ≤ now ∧ now ≤ 1000000) = b at hisn
  simp [initSt, avPVs, avPV, avBoxesL, avBoxes, rvPeers, num]
  refine callS_val rfl rfl (.inl rfl) hpc ?_
  simp [num]
  refine callS_val rfl rfl (.inl rfl) hisn ?_
  simp [num]
  refine callS_val rfl rfl (.inl rfl) (i_unless b 4) ?_
  simp [num, elems]
  refine callS_val rfl rfl (.inr rfl) (i_first [if 4096 < l.length then 2 else if lpeersOK l then 0 else 1, if b then 0 else 4] (by simp)) ?_
  by_cases h : 4096 < l.length
  · rw [if_pos h, if_pos h, lfirst_ne (by decide)]
    simp [num, wakeRes]
  · rw [if_neg h, if_neg h]
    cases hok : lpeersOK l with
    | false =>
      rw [if_neg (by simp), if_neg (by simp), lfirst_ne (by decide)]
      simp [num, wakeRes]
    | true =>
      rw [if_pos rfl, if_pos rfl, lfirst_zero]
      by_cases hn : 0 ≤ now ∧ now ≤ 1000000
      · rw [decide_eq_true hn] at hb
        subst hb
        rw [if_pos hn, if_pos rfl, show lfirst [0] = 0 from rfl]
        simp [num]
        refine loop_EC (X := Nat) (fun i => ⟨envOf [(1, .val (num now)), (7, .val (num ((lwake now (l.take i)).getD 0))), (8, .val (.bool (lwake now (l.take i)).isSome)), (22, .val (rvPeers l)), (23, .val (num l.length)), (24, .val (num i))], memOf []⟩) (fun i => i ≤ l.length) (fun i => l.length - i) 0 (Le.mk _ _ ?_ ?_) (Nat.zero_le _) ?_
        · simp [upd, rvPeers, num, lwake, PV.kill]
        · simp
        · intro i hi
          refine iwake_l25 l now hl i hi (fun hil st' q7 q8 => ?_) (fun hil st' q1 q7 q8 q22 q23 q24 => ?_)
          · simp [q8]
            cases hw : lwake now l with
            | none =>
              simp [num, wakeRes]
            | some n =>
              rw [hw] at q7
              simp [q7, wakeRes, num]
          · simp
            refine LoopNext.mk (i + 1) (by omega) (by omega) (Le.mk _ _ ?_ ?_)
            · simp [q1, q7, q8, q22, q23, q24]
            · simp
      · rw [decide_eq_false hn] at hb
        subst hb
        rw [if_neg hn, if_neg (by simp), lfirst_ne (by decide)]
        simp [num, wakeRes]

end Go.Proofs
end

/- When a channel can send: the law of DueAt. -/
section
set_option maxRecDepth 100000
set_option linter.unusedVariables false
set_option linter.unusedSectionVars false
set_option linter.unusedSimpArgs false
namespace Go.Proofs
open Go.PW Go.KP
attribute [local simp] RV.cells RV.one PV.cells PV.solid PV.one vals? allVal mkAgg setAt RV.ofCells elems PV.killL
variable [GH]

theorem c_specDueAt (p : LPipe) (name : Tx) (hb : bdPipe 1048576 p) : CallOK Tryz.prog 16 [.val (rvPipe p), .val (tx name)] (.ret (.tup [.val (num (ldue p name).1), .val (num (ldue p name).2)]) []) [] := by
  obtain ⟨r, hr⟩ : ∃ r, ldue p name = r := ⟨_, rfl⟩
  rw [hr]
  have hcl : p.channels.length ≤ 1048576 := hb.1.1
  have hP := c_l08OK p hb
  have hA := c_l08At p.channels name (by omega)
  refine call_val mixed ok16 rfl (fun _ => rfl) ?_
  unfold ir16
  rw [evalC_intro]
  simp [initSt, avPVs, avPV, avBoxesL, avBoxes, rvPipe, tx, num, bs_size]
  refine iteP_intro (fun h1 => ?_) (fun h1 => ?_)
  · obtain rfl : r = (0, 2) := by rw [← hr]; unfold ldue; rw [if_pos (by omega)]
    simp [num]
  simp [num, tx, PV.kill, MObj.kill]
  refine callS_val rfl rfl (.inl rfl) hP ?_
  unfold ldue at hr
  rw [if_neg (by omega)] at hr
  cases hk : lpipeOK p with
  | false =>
    rw [hk, if_neg (by simp)] at hr
    subst hr
    simp [num]
  | true =>
  rw [hk, if_pos rfl] at hr
  simp [num, tx, PV.kill, MObj.kill]
  refine callS_val rfl rfl (.inl rfl) hA ?_
  rcases lidx_find p.channels (fun c => decide (c.group.name = name)) with ⟨hl, hf⟩ | ⟨i, hi, hl, hf⟩
  · rw [hf] at hr
    subst hr
    rw [hl]
    simp [num]
  · rw [hf] at hr
    rw [hl]
    have hw := wake_valid hk hi
    obtain ⟨c, hc⟩ : ∃ c, p.channels[i] = c := ⟨_, rfl⟩
    have hbc := hb.1.2 _ (List.getElem_mem hi)
    have hpl := (chan_peers (pipe_chan hk hi)).2
    rw [hc] at hr hw hbc hpl
    simp only at hr
    have hN := c_specNextWake c.peers p.now (by omega) (fun x hx => by have := hbc.2.1.2 x hx; unfold bdPeer bdTarget at this; omega)
    have hi0 : ¬ ((i : Int) < 0) := by omega
    simp [num, tx, hi, hi0, hc, rvChannel, PV.kill, MObj.kill]
    refine iteP_intro (fun h2 => ?_) (fun h2 => ?_)
    · rw [if_pos (by simpa using h2)] at hr
      subst hr
      simp [num]
    · rw [if_neg (by simpa using h2)] at hr
      rw [hw] at hN
      simp [num, tx, hi, hc, rvChannel, PV.kill, MObj.kill]
      refine callX_two rfl rfl (.inl rfl) hN ?_
      cases hq : lwake p.now c.peers with
      | none =>
        rw [hq] at hr
        simp only at hr
        subst hr
        simp [num]
      | some t =>
        rw [hq] at hr
        simp only at hr
        subst hr
        simp [num]

theorem i_DueAt1 (x : LPeer) : CallOK Tryz.prog 49 [.val (rvPeer x)] (.ret (.val (.bool (!x.gone))) []) [] := by
  refine call_val mixed ok49 rfl (fun _ => rfl) ?_
  unfold ir49
  rw [evalC_intro]
  simp [initSt, avPVs, avPV, avBoxesL, avBoxes, rvPeer, rvTarget, tx, num]

theorem i_DueAt (p : LPipe) (name : Tx) (hb : bdPipe 1048576 p) (hnl : name.length ≤ 1048576) : CallOK Tryz.prog 17 [.val (rvPipe p), .val (tx name)] (.ret (.tup [.val (num (ldue p name).1), .val (num (ldue p name).2)]) []) [] := by
  obtain ⟨r, hr⟩ : ∃ r, ldue p name = r := ⟨_, rfl⟩
  rw [hr]
  have hcl : p.channels.length ≤ 1048576 := hb.1.1
  have hL := i_long name
  have hP := i_PipeOK p hb
  have hU := i_unless (lpipeOK p) 1
  have hF := i_first [if name.length ≤ 65536 then 0 else 2, if lpipeOK p then 0 else 1] (by simp)
  have hA := i_channel p name (by omega)
  refine call_val mixed ok17 rfl (fun _ => rfl) ?_
  unfold ir17
  rw [evalC_intro]
  simp [initSt, avPVs, avPV, avBoxesL, avBoxes, rvPipe, tx, num, bs_size]
  refine callX_val rfl rfl (.inl rfl) hL ?_
  simp [num]
  refine callS_val rfl rfl (.inl rfl) hP ?_
  simp [num]
  refine callS_val rfl rfl (.inl rfl) hU ?_
  simp [num, elems]
  refine callS_val rfl rfl (.inr rfl) hF ?_
  by_cases h1 : name.length ≤ 65536
  rotate_left
  · obtain rfl : r = (0, 2) := by rw [← hr]; unfold ldue; rw [if_pos (by omega)]
    rw [if_neg h1, lfirst_ne (by decide)]
    simp [num]
  rw [if_pos h1, lfirst_zero]
  unfold ldue at hr
  rw [if_neg (by omega)] at hr
  cases hk : lpipeOK p with
  | false =>
    rw [hk, if_neg (by simp)] at hr
    subst hr
    rw [if_neg (by simp), lfirst_ne (by decide)]
    simp [num]
  | true =>
  rw [hk, if_pos rfl] at hr
  rw [if_pos rfl, show lfirst [0] = 0 from rfl]
  simp [num, tx, PV.kill, MObj.kill]
  refine callS_val rfl rfl (.inl rfl) hA ?_
  rcases lidx_find p.channels (fun c => decide (c.group.name = name)) with ⟨hl, hf⟩ | ⟨i, hi, hl, hf⟩
  · rw [hf] at hr
    subst hr
    rw [hl]
    simp [num]
  · rw [hf] at hr
    rw [hl]
    have hw := wake_valid hk hi
    obtain ⟨c, hc⟩ : ∃ c, p.channels[i] = c := ⟨_, rfl⟩
    have hbc := hb.1.2 _ (List.getElem_mem hi)
    have hpl := (chan_peers (pipe_chan hk hi)).2
    rw [hc] at hr hw hbc hpl
    simp only at hr
    have hN := i_NextWake c.peers p.now (by omega) (fun x hx => by have := hbc.2.1.2 x hx; unfold bdPeer bdTarget at this; omega)
    have hC := i_ContainsFuncP c.peers 49 (fun x => !x.gone) (by omega) (by kernel_rfl) (fun x _ => i_DueAt1 x)
    rw [← lwake_some p.now] at hC
    have hi0 : ¬ ((i : Int) < 0) := by omega
    simp [num, tx, hi, hi0, hc, rvChannel, PV.kill, MObj.kill]
    refine iteP_intro (fun h2 => ?_) (fun h2 => ?_)
    · rw [if_pos (by simpa using h2)] at hr
      subst hr
      simp [num]
    · rw [if_neg (by simpa using h2)] at hr
      rw [hw] at hN
      simp [num, tx, hi, hc, rvChannel, PV.kill, MObj.kill]
      refine callS_val rfl rfl (.inl rfl) hC ?_
      cases hq : lwake p.now c.peers with
      | none =>
        rw [hq] at hr
        simp only at hr
        subst hr
        simp [num]
      | some t =>
        rw [hq] at hr hN
        simp only at hr
        subst hr
        simp [num, tx, hi, hc, rvChannel, PV.kill, MObj.kill]
        refine callS_two rfl rfl (.inl rfl) hN ?_
        simp [num]

theorem law_DueAt (p : LPipe) (name : Tx) (hb : bdPipe 9223372036854775807 p) (hn : name.length ≤ 9223372036854775807) : CallOK Tryz.prog 5 [.val (rvPipe p), .val (tx name)] (.ret (.val (.bool true)) []) [] := by
  refine call_val mixed ok5 rfl (fun _ => rfl) ?_
  unfold ir5
  rw [evalC_intro]
  simp [initSt, avPVs, avPV, avBoxesL, avBoxes, rvPipe, tx, num, allVal, bs_size]
  refine iteP_intro (fun h1 => ?_) (fun h1 => ?_)
  · simp [num]
  simp [rvPipe, tx, num, allVal]
  refine callS_val rfl rfl (.inl rfl) (g_szPipe p 1048576 (by omega) (by omega) hb) ?_
  by_cases hz : cut 1048576 (zPipe p) < 0
  · simp [num, hz]
  · obtain ⟨hz1, _⟩ := cut_small hz (by omega)
    have hs : bdPipe 1048576 p := zPipe_bd (by omega)
    simp [num, hz, allVal]
    refine callS_val rfl rfl (.inl rfl) (g_toPipe p hs) ?_
    simp [allVal, num]
    refine callS_two rfl rfl (.inl rfl) (c_specDueAt p name hs) ?_
    simp [allVal, rvPipe, tx, num]
    refine callS_val rfl rfl (.inl rfl) (g_toPipe p hs) ?_
    simp [allVal, rvPipe, tx, num]
    refine callS_two rfl rfl (.inl rfl) (i_DueAt p name hs (by omega)) ?_
    simp [allVal, rvPipe, tx, num]
    refine callX_val rfl rfl (.inl rfl) (g_toPipe p hs) ?_
    simp [allVal, rvPipe, tx, num]
    refine callS_val rfl rfl (.inl rfl) (g_eqPipe p hs) ?_
    simp
end Go.Proofs
end
