/- Vg: merged out of KIo, KVExactGroupFor. -/
import Derived.Test.YtmilnihobbgopaaGreatDoorEc
import Derived.Test.YtmilnihobbgopaaGreatDoorCc
import Derived.Test.YtmilnihobbgopaaGreatDoorBc
import Derived.Test.YtmilnihobbgopaaGreatDoorFb
import Derived.Test.YtmilnihobbgopaaGreatDoorTie
import Derived.Test.YtmilnihobbgopaaGreatDoorCards
import Derived.SevenTiedAt
import Derived.ChangeMaps5

/- The laws of PolicyOK and GroupFor. -/
section
set_option maxRecDepth 100000
set_option linter.unusedVariables false
set_option linter.unusedSectionVars false
set_option linter.unusedSimpArgs false
namespace Go.Proofs
open Go.PW Go.KP
attribute [local simp] RV.cells RV.one PV.cells PV.solid PV.one vals? allVal mkAgg setAt RV.ofCells elems PV.killL
variable [GH]

theorem law_PolicyOK (p : LPolicy) (hb : bdPolicy 9223372036854775807 p) : CallOK Tryz.prog 8 [.val (rvPolicy p)] (.ret (.val (.bool true)) []) [] := by
  refine call_val mixed ok8 rfl (fun _ => rfl) ?_
  unfold ir8
  rw [evalC_intro]
  simp [initSt, avPVs, avPV, avBoxesL, avBoxes, rvPolicy, tx, allVal]
  refine callS_val rfl rfl (.inl rfl) (g_szPolicy p 1048576 (by omega) (by omega) hb) ?_
  by_cases hz : cut 1048576 (zPolicy p) < 0
  · simp [num, hz]
  · obtain ⟨hz1, _⟩ := cut_small hz (by omega)
    have hs : bdPolicy 1048576 p := zPolicy_bd (by omega)
    simp [num, hz, allVal]
    refine callS_val rfl rfl (.inl rfl) (g_toPolicy p hs) ?_
    simp [allVal]
    refine callS_val rfl rfl (.inl rfl) (c_specPolicyOK p hs) ?_
    simp [allVal, rvPolicy, tx]
    refine callS_val rfl rfl (.inl rfl) (g_toPolicy p hs) ?_
    simp [allVal, rvPolicy, tx]
    refine callS_val rfl rfl (.inl rfl) (i_PolicyOK p hs) ?_
    simp [allVal, rvPolicy, tx]
    refine callX_val rfl rfl (.inl rfl) (g_toPolicy p hs) ?_
    simp [allVal, rvPolicy, tx]
    refine callS_val rfl rfl (.inl rfl) (g_eqPolicy p hs) ?_
    simp
theorem law_GroupFor (p : LPolicy) (hb : bdPolicy 9223372036854775807 p) : CallOK Tryz.prog 11 [.val (rvPolicy p)] (.ret (.val (.bool true)) []) [] := by
  refine call_val mixed ok11 rfl (fun _ => rfl) ?_
  unfold ir11
  rw [evalC_intro]
  simp [initSt, avPVs, avPV, avBoxesL, avBoxes, rvPolicy, tx, allVal]
  refine callS_val rfl rfl (.inl rfl) (g_szPolicy p 1048576 (by omega) (by omega) hb) ?_
  by_cases hz : cut 1048576 (zPolicy p) < 0
  · simp [num, hz]
  · obtain ⟨hz1, _⟩ := cut_small hz (by omega)
    have hs : bdPolicy 1048576 p := zPolicy_bd (by omega)
    simp [num, hz, allVal]
    refine callS_val rfl rfl (.inl rfl) (g_toPolicy p hs) ?_
    simp [allVal]
    refine callS_pv rfl rfl (fun _ => rfl) rfl (.inl rfl) (c_specGroupFor p hs) ?_
    simp [allVal, rvPolicy, tx, forRes]
    refine callS_val rfl rfl (.inl rfl) (g_toPolicy p hs) ?_
    simp [allVal, rvPolicy, tx]
    refine callS_pv rfl rfl (fun _ => rfl) rfl (.inl rfl) (i_GroupFor p hs) ?_
    simp [allVal, rvPolicy, tx, forRes, num]
    refine callX_val rfl rfl (.inl rfl) (g_toPolicy p hs) ?_
    simp [allVal, rvPolicy, tx]
    refine callS_val rfl rfl (.inl rfl) (g_eqPolicy p hs) ?_
    simp
end Go.Proofs
end

/- THE CARD OF 'laws.FnExactGroupFor': for every input the call returns true, and each argument reads as it did; the listed variables of the library are tied to the program's text. MADE BY PROGRAM (gen_row.py). -/
section
set_option maxRecDepth 100000
set_option linter.unusedVariables false
namespace Go.Proofs.YtmilnihobbgopaaGreatDoor
open Go Go.ChangeShapes Go.WideShapes Go.ChangeAt Go.RowKit Go.PW Go.KP

theorem paramsGroupFor : Tryz.f11.params = #[49] := rfl

theorem liftedGroupFor (os : Os) (started : os.Started) (H : Type) (enc : TypeId × Value → H) :
    ReturnsInHanded {} Tryz.checked os 11 .any (fun w args => (Rows.fnExactGroupForSpec.pre enc Tryz.prog Tryz.f11 [] false w args ∧ laidMetH Tryz.prog lay5 w) ∧ sizedMet enc Tryz.prog Tryz.f11 (OpenSpec.ofChange Rows.fnExactGroupForSpec) false w args)
      (Rows.fnExactGroupForSpec.post enc Tryz.prog Tryz.f11 false true false false) := by
  refine lifted_shaped (C := Tryz.checked) (X := fun w _ => laidMetH Tryz.prog lay5 w) (fun _ _ _ hh h => h.of_heap hh) own started (by kernel_rfl) Tryz.func11
    (ChangeSpec.witness_shaped (enc := enc) (C := Tryz.checked) (os := os) (X := fun w _ => laidMetH Tryz.prog lay5 w) false (World.doorLaid Tryz.prog 4000 os) #[.agg #[.string ⟨#[]⟩, .slice none 0 0, .slice none 0 0]] 12 rfl (World.shaped_of_RefB (by kernel_rfl) (by kernel_rfl)) (by kernel_rfl) (by kernel_rfl) (by kernel_rfl) (door_met os _)) ?_
  intro W base args ds gs before hval0 hW hL hsh
  have hval : ∀ (j : Nat) t v, Tryz.f11.params[j]? = some t → args[j]? = some v → Value.okWide Tryz.prog W .any base t v := hval0
  have hW' := hW
  obtain ⟨p, q, hA0, hV, rfl, _, _⟩ := hW
  have hA : DataW.TrodAll enc Tryz.prog W 0 (fun _ => true) true Tryz.f11.params.toList args.toList ds p := hA0
  rw [paramsGroupFor] at hA hval
  obtain ⟨v0, d0, rfl, rfl, h0⟩ := trodAll_one hA
  obtain ⟨rfl, rfl⟩ := trodVars_none hV
  obtain ⟨a0, rfl, hz0⟩ := okWide_struct (fs := _) Tryz.underlying49 (hval 0 49 v0 rfl rfl)
  obtain ⟨r0, hr0, hq0⟩ := arg_agg (n := 5) (by kernel_rfl) hz0 h0
  obtain ⟨x0, e0, b0⟩ := policy_ofrv (n := 0) hr0
  rw [← e0] at hq0
  obtain ⟨I, hg, hb⟩ := gh_of hL hsh
  have hlaw := @law_GroupFor I x0 b0
  refine (calls_of (v := .bool true) hlaw (fun g hgg => ⟨fun h => h, hg g hgg⟩) (fun g hgg => ⟨fun h => h, hb g hgg⟩) (.cons _ _ _ _ [] [] (.val _ _ hq0) .nil) (fun L w u hu => by cases hu; rfl)).mono fun e W' ⟨he, hbl⟩ => ?_
  exact ⟨_, he, post_true laidOut rfl Tryz.underlying4 rfl (by kernel_rfl) rfl hW' hbl⟩

theorem z1GroupFor : (Rows.fnExactGroupForRow.inPlace == Tryz.prog.inPlace 11) = true := by kernel_rfl
theorem z2GroupFor : (Rows.fnExactGroupForRow.unfollowed == Tryz.prog.unfollowed 11) = true := by kernel_rfl
theorem z3GroupFor : (Rows.fnExactGroupForRow.recurses == Tryz.prog.recurses 11) = true := by kernel_rfl
theorem z4GroupFor : (Rows.fnExactGroupForRow.named == Tryz.prog.varsNamed 11) = true := by kernel_rfl
theorem z8GroupFor : (Rows.fnExactGroupForRow.plainKeys == Tryz.prog.plainKeys) = true := by rw [z8All]; rfl
theorem z11GroupFor : (Rows.fnExactGroupForRow.lifted == Tryz.prog.liftsFinal) = true := by rw [z11All]; rfl
theorem z12GroupFor : Tryz.prog.funcNamed "loop.example/g00779/laws.FnExactGroupFor" = some 11 := by kernel_rfl
theorem closedGroupFor : joinedFacts Tryz.prog 11 Tryz.f11 Rows.fnExactGroupForSpec Rows.fnExactGroupForRow = true := by
  unfold joinedFacts
  simp only [Bool.and_eq_true]
  repeat' (apply And.intro)
  all_goals first
    | with_reducible exact laidOut
    | with_reducible exact z1GroupFor
    | with_reducible exact z2GroupFor
    | with_reducible exact z3GroupFor
    | with_reducible exact z4GroupFor
    | with_reducible exact z5All
    | with_reducible exact z6All
    | with_reducible exact z7All
    | with_reducible exact z8GroupFor
    | with_reducible exact z9All
    | with_reducible exact z10All
    | with_reducible exact z11GroupFor
    | kernel_rfl

theorem instGroupFor : Tryz.f11.isInstance Tryz.prog Rows.fnExactGroupForRow.origin Rows.fnExactGroupForRow.targs := of_decide_eq_true (by kernel_rfl)
theorem wrapGroupFor : Tryz.f11.isWrapper Tryz.prog Rows.fnExactGroupForRow.wrapper Rows.fnExactGroupForRow.mainSum := by
  unfold Func.isWrapper; first | (rw [if_pos (by decide +kernel)]; kernel_rfl) | (rw [if_neg (by decide +kernel)]; exact ⟨rfl, rfl⟩)
theorem rowGroupFor : Rows.FnExactGroupForSaid :=
  OpenClaim.holds_of_wide 11 Tryz.f11 rfl rfl rfl rfl rfl rfl rfl ⟨rfl, rfl, rfl, rfl, rfl⟩ rfl rfl rfl rfl rfl z12GroupFor Tryz.func11 closedGroupFor instGroupFor wrapGroupFor
    (fun os started H enc _ => liftedGroupFor os started H enc)

theorem y1GroupFor : Rows.fnExactGroupForRow.wfByText (OpenSpec.ofChange Rows.fnExactGroupForSpec) = true := by kernel_rfl
theorem y4GroupFor : false = Rows.fnExactGroupForRow.goesBy Tryz.prog := by kernel_rfl
theorem groupFor_card : Rows.FnExactGroupForCardSaid :=
  Claim7.holds_tied_plain_at .later [] [.data, .data, .data, .sentinel, .sentinel] true (true, "9e1acf34d2e11551000dc3c64ac39e34b40ed56a9b6c26527531e028de39efab") true
    rowGroupFor (fun _ h => by cases h) y1GroupFor (fun _ h => by cases h) fnExactGroupFor_row_tie rfl ⟨rfl, rfl⟩ y2All rfl
    (fun f fn hf hfn => by
      obtain rfl : f = 11 := Option.some.inj (z12GroupFor.symm.trans hf) |>.symm
      obtain rfl : fn = Tryz.f11 := (Option.some.inj (Tryz.func11.symm.trans hfn)).symm
      exact ⟨y3All, fun j t ht => by
        rw [paramsGroupFor] at ht
        match j, ht with
        | 0, ht =>
          obtain rfl : 49 = t := by simpa using ht
          exact (show Tryz.prog.wantsStandIn 49 = false by kernel_rfl)
        | j + 1, ht => simp at ht⟩)
    y4GroupFor
end Go.Proofs.YtmilnihobbgopaaGreatDoor
end
