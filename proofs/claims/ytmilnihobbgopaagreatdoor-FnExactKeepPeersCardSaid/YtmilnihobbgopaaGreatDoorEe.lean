/- Ee: merged out of KIi. -/
import Derived.Test.YtmilnihobbgopaaGreatDoorEb

/- What the program's look at peers comes to. -/
section
set_option maxRecDepth 100000
set_option linter.unusedVariables false
set_option linter.unusedSectionVars false
set_option linter.unusedSimpArgs false
namespace Go.Proofs
open Go.PW Go.KP
attribute [local simp] RV.cells RV.one PV.cells PV.solid PV.one vals? allVal mkAgg setAt RV.ofCells elems PV.killL
variable [GH]

theorem any_url (l : List LTarget) (url : Tx) : (l.any fun x => decide (x.url = url)) = decide (url ∈ l.map fun t => t.url) := by
  rw [Bool.eq_iff_iff]
  simp only [List.any_eq_true, decide_eq_true_eq, List.mem_map]

theorem i_areUnlike (l : List LTarget) (hl : l.length < 1099511627776) : CallOK Tryz.prog 121 [.val (.list 3 (l.map rvTarget))] (.ret (.val (.bool (tunlike l))) []) [] := by
  refine call_val mixed ok121 rfl (fun _ => rfl) ?_
  unfold ir121
  rw [evalC_intro]
  simp [initSt, avPVs, avPV, avBoxesL, avBoxes]
  refine loop_EC (X := Nat) (fun i => ⟨envOf [(0, .val (.list 3 (l.map rvTarget))), (5, .val (.list 3 (l.map rvTarget))), (6, .val (num l.length)), (7, .val (num i))], memOf []⟩) (fun i => i ≤ l.length ∧ tunlike (l.take i) = true) (fun i => l.length - i) 0 (Le.mk _ _ ?_ ?_) ?_ ?_
  · simp [upd, num]
  · simp
  · simp [tunlike, lunlike]
  · rintro i ⟨hi, hinv⟩
    simp [num]
    refine iteP_intro (fun h1 => ?_) (fun h1 => ?_)
    · have e1 := targets_at h1
      simp [num, h1, e1, rvTarget, tx, show i ≤ l.length by omega]
      have hh := i_hasUrl (l.take i) l[i].url (by simp; omega)
      rw [any_url, List.map_take] at hh
      refine callS_val rfl rfl (.inl rfl) hh ?_
      have ht := tunlike_take l i h1
      by_cases hm : l[i].url ∈ (l.take i).map fun t => t.url
      · rw [decide_eq_true hm]
        have : tunlike l = false := tunlike_false l (i + 1) (by rw [ht, hinv, decide_eq_false (fun h => h hm)]; rfl)
        rw [this]
        simp
      · rw [decide_eq_false hm]
        simp
        refine LoopNext.mk (i + 1) ⟨by omega, ?_⟩ (by omega) (Le.mk _ _ ?_ ?_)
        · rw [ht, hinv, decide_eq_true hm]; rfl
        · simp [num]; exact wrap_i64 (by omega) (by omega)
        · simp
    · have e : i = l.length := by omega
      subst e
      rw [List.take_length] at hinv
      rw [hinv]
      simp

def tgs (l : List LPeer) : List LTarget := l.map fun p => p.target
theorem i_targetsOf (l : List LPeer) (hl : l.length < 1099511627776) : CallOK Tryz.prog 122 [.val (rvPeers l)] (.ret (.val (.list 3 ((tgs l).map rvTarget))) []) [] := by
  refine call_val mixed ok122 rfl (fun _ => rfl) ?_
  unfold ir122
  rw [evalC_intro]
  simp [initSt, avPVs, avPV, avBoxesL, avBoxes, rvPeers, elems]
  refine loop_EC (X := Nat) (fun i => ⟨envOf [(3, .own 6), (7, .val (rvPeers l)), (8, .val (num l.length)), (9, .val (num i))], memOf [(6, .row 65 3 ((tgs (l.take i)).map rvTarget))]⟩) (fun i => i ≤ l.length) (fun i => l.length - i) 0 (Le.mk _ _ ?_ ?_) ?_ ?_
  · simp [upd, num, rvPeers, PV.kill]
  · simp [upd, tgs]
  · simp
  · intro i hi
    simp [num, rvPeers]
    refine iteP_intro (fun h1 => ?_) (fun h1 => ?_)
    · have e1 := peers_at h1
      rw [List.getD_eq_getElem?_getD] at e1
      have hlen : (tgs (l.take i)).length = i := by simp [tgs]; omega
      have hsucc : (tgs (l.take (i + 1))).map rvTarget = (tgs (l.take i)).map rvTarget ++ [rvTarget l[i].target] := by
        unfold tgs
        rw [List.take_add_one, List.getElem?_eq_getElem h1, List.map_append, List.map_append]
        rfl
      simp [num, rvPeers, h1, e1, rvPeer, tx, elems, allVal, hlen, RV.one]
      refine ⟨by omega, by omega, ?_⟩
      refine LoopNext.mk (i + 1) (by omega) (by omega) (Le.mk _ _ ?_ ?_)
      · simp [rvPeers, num]; exact wrap_i64 (by omega) (by omega)
      · rw [hsucc]
        simp [rvTarget, num, tx]
    · have e1 : i = l.length := by omega
      subst e1
      simp [num, rvPeers, frzOf]

/-- Where the look at a peer stands. -/
structure JP (st : St) (x : LPeer) : Prop where
  e1 : st.env 1 = .ptr 1 0
  m1 : st.mem 1 = .box (peerCells x)
section
variable {Ks : Kx (St → Prop)} {kx : Kx (RV → St → Prop)} {st : St} {x : LPeer} {b : Bool}
theorem qops20 (h : JP st x) (hb : st.env 19 = .val (.bool b)) (hK : ∀ st', st'.env 2 = .val (.bool (b || pb36 x)) → Ks.k st') : EO Tryz.prog ir124_o20 st (Ks := Ks) (kx := kx) := by
  unfold ir124_o20
  cases b with
  | true =>
    simp [hb]
    exact hK _ (by simp)
  | false =>
    by_cases h0 : x.fails = 0
    · by_cases h1 : x.retry = 0
      · simp [hb, h.e1, h.m1, peerCells, num, h0, h1]
        exact hK _ (by simp [pb36, h0, h1])
      · simp [hb, h.e1, h.m1, peerCells, num, h0, h1]
        exact hK _ (by simp [pb36, h0, h1])
    · simp [hb, h.e1, h.m1, peerCells, num, h0]
      exact hK _ (by simp [pb36, h0])
theorem qops14 (h : JP st x) (hb : st.env 13 = .val (.bool b)) (hK : ∀ st', st'.env 2 = .val (.bool (b || pb30 x)) → Ks.k st') : EO Tryz.prog ir124_o14 st (Ks := Ks) (kx := kx) := by
  unfold ir124_o14
  cases b with
  | true =>
    simp [hb]
    refine qops20 (x := x) (b := true) ⟨?_, ?_⟩ ?_ (fun st' q2 => hK st' (by simpa using q2)) <;> simp [h.e1, h.m1]
  | false =>
    simp [hb, h.e1, h.m1, peerCells, num]
    refine callS_val rfl rfl (.inl rfl) (i_within x.retry 0 1000032) ?_
    simp [hb]
    refine qops20 (x := x) (b := !decide (0 ≤ x.retry ∧ x.retry ≤ 1000032)) ⟨?_, ?_⟩ ?_ (fun st' q2 => hK st' (by rw [q2]; simp [pb30])) <;> simp [h.e1, h.m1]
theorem qops8 (h : JP st x) (hb : st.env 7 = .val (.bool b)) (hK : ∀ st', st'.env 2 = .val (.bool (b || pb24 x)) → Ks.k st') : EO Tryz.prog ir124_o8 st (Ks := Ks) (kx := kx) := by
  unfold ir124_o8
  cases b with
  | true =>
    simp [hb]
    refine qops14 (x := x) (b := true) ⟨?_, ?_⟩ ?_ (fun st' q2 => hK st' (by simpa using q2)) <;> simp [h.e1, h.m1]
  | false =>
    simp [hb, h.e1, h.m1, peerCells, num]
    refine callS_val rfl rfl (.inl rfl) (i_within x.fails 0 1000000) ?_
    simp [hb]
    refine qops14 (x := x) (b := !decide (0 ≤ x.fails ∧ x.fails ≤ 1000000)) ⟨?_, ?_⟩ ?_ (fun st' q2 => hK st' (by rw [q2]; simp [pb24])) <;> simp [h.e1, h.m1]
end

theorem i_PeersOK1 (x : LPeer) (hx : x.target.url.length < 1048577) : CallOK Tryz.prog 124 [.val (rvPeer x)] (.ret (.val (.bool (!lpeerOK x))) []) [] := by
  refine call_val mixed ok124 rfl (fun _ => rfl) ?_
  unfold ir124
  rw [evalC_intro, lpeerOK_eq, Bool.not_not]
  simp [initSt, avPVs, avPV, avBoxesL, avBoxes, rvPeer, tx, num, allVal]
  refine callS_val rfl rfl (.inl rfl) (i_targetOK x.target hx) ?_
  simp
  refine qops8 (x := x) (b := !ltargetOK x.target) ⟨?_, ?_⟩ ?_ (fun st' q => ?_)
  · simp
  · simp [peerCells, tx, num]
  · simp
  · simp [q]

theorem i_IndexFuncP (l : List LPeer) (g : Nat) (p : LPeer → Bool) (hl : l.length < 1099511627776) (hg : fnB Tryz.prog g = true)
    (hp : ∀ x ∈ l, CallOK Tryz.prog g [.val (rvPeer x)] (.ret (.val (.bool (p x))) []) []) :
    CallOK Tryz.prog 188 [.val (rvPeers l), .fn g []] (.ret (.val (num (lidx l p))) []) [] := by
  refine call_val mixed ok188 rfl (fun _ => rfl) ?_
  unfold ir188
  rw [evalC_intro]
  simp [initSt, avPVs, avPV, avBoxesL, avBoxes, avPV, avPVs, rvPeers]
  refine loop_EC (X := Nat) (fun i => ⟨envOf [(0, .val (rvPeers l)), (1, .fn g []), (7, .val (num l.length)), (8, .val (num i))], memOf []⟩) (fun i => i ≤ l.length ∧ ∀ k (hk : k < i) (hk' : k < l.length), p l[k] = false) (fun i => l.length - i) 0 (Le.mk _ _ ?_ ?_) ?_ ?_
  · simp [upd, num, rvPeers]
  · simp
  · simp
  · rintro i ⟨hi, hne⟩
    simp [num, rvPeers]
    refine iteP_intro (fun h1 => ?_) (fun h1 => ?_)
    · have e1 := peers_at h1
      rw [List.getD_eq_getElem?_getD] at e1
      simp [num, rvPeers, h1, e1, rvPeer, tx, hg]
      refine callS_val rfl rfl (.inl rfl) (hp l[i] (List.getElem_mem h1)) ?_
      cases hpi : p l[i] with
      | true =>
        simp
        rw [lidx_hit h1 hpi (fun k hk => hne k hk (by omega))]; rfl
      | false =>
        simp
        refine LoopNext.mk (i + 1) ⟨by omega, fun k hk hk' => ?_⟩ (by omega) (Le.mk _ _ ?_ ?_)
        · by_cases e : k = i
          · subst e; exact hpi
          · exact hne k (by omega) hk'
        · simp [num, rvPeers]; exact wrap_i64 (by omega) (by omega)
        · simp
    · have e : i = l.length := by omega
      subst e
      simp [num]
      rw [lidx_none (fun k hk => hne k hk hk)]

theorem i_ContainsFuncP (l : List LPeer) (g : Nat) (p : LPeer → Bool) (hl : l.length < 1099511627776) (hg : fnB Tryz.prog g = true)
    (hp : ∀ x ∈ l, CallOK Tryz.prog g [.val (rvPeer x)] (.ret (.val (.bool (p x))) []) []) :
    CallOK Tryz.prog 123 [.val (rvPeers l), .fn g []] (.ret (.val (.bool (l.any p))) []) [] := by
  refine call_val mixed ok123 rfl (fun _ => rfl) ?_
  unfold ir123
  rw [evalC_intro, ← lidx_ge l p]
  simp [initSt, avPVs, avPV, avBoxesL, avBoxes, avPV, avPVs, rvPeers]
  refine callS_val rfl rfl (.inl rfl) (i_IndexFuncP l g p hl hg hp) ?_
  simp [num]

theorem i_PeersOK (l : List LPeer) (hl : l.length < 1099511627776) (hs : ∀ p ∈ l, p.target.url.length < 1048577) : CallOK Tryz.prog 60 [.val (rvPeers l)] (.ret (.val (.bool (lpeersOK l))) []) [] := by
  refine call_val mixed ok60 rfl (fun _ => rfl) ?_
  unfold ir60
  rw [evalC_intro]
  by_cases h4 : 4 < l.length
  · have h4' : (4 : Int) < l.length := by omega
    have e : lpeersOK l = false := by
      unfold lpeersOK
      rw [decide_eq_false (by omega)]; rfl
    simp [initSt, avPVs, avPV, avBoxesL, avBoxes, rvPeers, h4', e]
  · have h4' : ¬ (4 : Int) < l.length := by omega
    have e : lpeersOK l = (tunlike (tgs l) && !(l.any fun x => !lpeerOK x)) := by
      unfold lpeersOK tgs
      rw [decide_eq_true (by omega), tunlike_peers, Bool.true_and, Bool.and_comm]
      congr 1
      rw [Bool.eq_iff_iff]
      simp
    rw [e]
    simp [initSt, avPVs, avPV, avBoxesL, avBoxes, rvPeers, h4']
    refine callS_val rfl rfl (.inl rfl) (i_targetsOf l hl) ?_
    simp
    refine callS_val rfl rfl (.inl rfl) (i_areUnlike (tgs l) (by simp [tgs]; omega)) ?_
    cases hu : tunlike (tgs l) with
    | false => simp
    | true =>
      simp only [Bool.true_and]
      simp
      refine callS_val rfl rfl (.inl rfl) (i_ContainsFuncP l 124 (fun x => !lpeerOK x) hl (by kernel_rfl) (fun x hx => i_PeersOK1 x (hs x hx))) ?_
      simp

theorem i_peersCode (l : List LPeer) (hl : l.length < 1099511627776) (hs : ∀ p ∈ l, p.target.url.length < 1048577) : CallOK Tryz.prog 106 [.val (rvPeers l)] (.ret (.val (num (if 4096 < l.length then 2 else if lpeersOK l then 0 else 1))) []) [] := by
  refine call_val mixed ok106 rfl (fun _ => rfl) ?_
  unfold ir106
  rw [evalC_intro]
  simp [initSt, avPVs, avPV, avBoxesL, avBoxes, rvPeers, num]
  refine callS_val rfl rfl (.inl rfl) (i_longList l.length) ?_
  simp [num]
  refine callS_val rfl rfl (.inl rfl) (i_PeersOK l hl hs) ?_
  simp [num]
  refine callS_val rfl rfl (.inl rfl) (i_unless (lpeersOK l) 1) ?_
  simp [num, elems]
  have hf := i_first [if (l.length : Int) ≤ 4096 then 0 else 2, if lpeersOK l then 0 else 1] (by simp)
  refine callS_val rfl rfl (.inr rfl) hf ?_
  simp [num]
  by_cases h : 4096 < l.length
  · rw [if_pos h, if_neg (by omega), lfirst_ne (by decide)]
  · rw [if_neg h, if_pos (by omega), lfirst_zero]
    cases lpeersOK l
    · simp [lfirst]
    · simp [lfirst]
end Go.Proofs
end
