/- Vp: merged out of KIo, KVExactPolicyOK. -/
import Derived.Test.YtmilnihobbgopaaGreatDoorEc
import Derived.Test.YtmilnihobbgopaaGreatDoorCc
import Derived.Test.YtmilnihobbgopaaGreatDoorBc
import Derived.Test.YtmilnihobbgopaaGreatDoorFb
import Derived.Test.YtmilnihobbgopaaGreatDoorTie
import Derived.Test.YtmilnihobbgopaaGreatDoorCards
import Derived.SevenTiedAt
import Derived.ChangeMaps5

/- The laws of PolicyOK and GroupFor. -/
section
set_option maxRecDepth 100000
set_option linter.unusedVariables false
set_option linter.unusedSectionVars false
set_option linter.unusedSimpArgs false
namespace Go.Proofs
open Go.PW Go.KP
attribute [local simp] RV.cells RV.one PV.cells PV.solid PV.one vals? allVal mkAgg setAt RV.ofCells elems PV.killL
variable [GH]

theorem law_PolicyOK (p : LPolicy) (hb : bdPolicy 9223372036854775807 p) : CallOK Tryz.prog 8 [.val (rvPolicy p)] (.ret (.val (.bool true)) []) [] := by
  refine call_val mixed ok8 rfl (fun _ => rfl) ?_
  unfold ir8
  rw [evalC_intro]
  simp [initSt, avPVs, avPV, avBoxesL, avBoxes, rvPolicy, tx, allVal]
  refine callS_val rfl rfl (.inl rfl) (g_szPolicy p 1048576 (by omega) (by omega) hb) ?_
  by_cases hz : cut 1048576 (zPolicy p) < 0
  · simp [num, hz]
  · obtain ⟨hz1, _⟩ := cut_small hz (by omega)
    have hs : bdPolicy 1048576 p := zPolicy_bd (by omega)
    simp [num, hz, allVal]
    refine callS_val rfl rfl (.inl rfl) (g_toPolicy p hs) ?_
    simp [allVal]
    refine callS_val rfl rfl (.inl rfl) (c_specPolicyOK p hs) ?_
    simp [allVal, rvPolicy, tx]
    refine callS_val rfl rfl (.inl rfl) (g_toPolicy p hs) ?_
    simp [allVal, rvPolicy, tx]
    refine callS_val rfl rfl (.inl rfl) (i_PolicyOK p hs) ?_
    simp [allVal, rvPolicy, tx]
    refine callX_val rfl rfl (.inl rfl) (g_toPolicy p hs) ?_
    simp [allVal, rvPolicy, tx]
    refine callS_val rfl rfl (.inl rfl) (g_eqPolicy p hs) ?_
    simp
theorem law_GroupFor (p : LPolicy) (hb : bdPolicy 9223372036854775807 p) : CallOK Tryz.prog 11 [.val (rvPolicy p)] (.ret (.val (.bool true)) []) [] := by
  refine call_val mixed ok11 rfl (fun _ => rfl) ?_
  unfold ir11
  rw [evalC_intro]
  simp [initSt, avPVs, avPV, avBoxesL, avBoxes, rvPolicy, tx, allVal]
  refine callS_val rfl rfl (.inl rfl) (g_szPolicy p 1048576 (by omega) (by omega) hb) ?_
  by_cases hz : cut 1048576 (zPolicy p) < 0
  · simp [num, hz]
  · obtain ⟨hz1, _⟩ := cut_small hz (by omega)
    have hs : bdPolicy 1048576 p := zPolicy_bd (by omega)
    simp [num, hz, allVal]
    refine callS_val rfl rfl (.inl rfl) (g_toPolicy p hs) ?_
    simp [allVal]
    refine callS_pv rfl rfl (fun _ => rfl) rfl (.inl rfl) (c_specGroupFor p hs) ?_
    simp [allVal, rvPolicy, tx, forRes]
    refine callS_val rfl rfl (.inl rfl) (g_toPolicy p hs) ?_
    simp [allVal, rvPolicy, tx]
    refine callS_pv rfl rfl (fun _ => rfl) rfl (.inl rfl) (i_GroupFor p hs) ?_
    simp [allVal, rvPolicy, tx, forRes, num]
    refine callX_val rfl rfl (.inl rfl) (g_toPolicy p hs) ?_
    simp [allVal, rvPolicy, tx]
    refine callS_val rfl rfl (.inl rfl) (g_eqPolicy p hs) ?_
    simp
end Go.Proofs
end

/- THE CARD OF 'laws.FnExactPolicyOK': for every input the call returns true, and each argument reads as it did; the listed variables of the library are tied to the program's text. MADE BY PROGRAM (gen_row.py). -/
section
set_option maxRecDepth 100000
set_option linter.unusedVariables false
namespace Go.Proofs.YtmilnihobbgopaaGreatDoor
open Go Go.ChangeShapes Go.WideShapes Go.ChangeAt Go.RowKit Go.PW Go.KP

theorem paramsPolicyOK : Tryz.f8.params = #[49] := rfl

theorem liftedPolicyOK (os : Os) (started : os.Started) (H : Type) (enc : TypeId × Value → H) :
    ReturnsInHanded {} Tryz.checked os 8 .any (fun w args => (Rows.fnExactPolicyOKSpec.pre enc Tryz.prog Tryz.f8 [] false w args ∧ laidMetH Tryz.prog lay5 w) ∧ sizedMet enc Tryz.prog Tryz.f8 (OpenSpec.ofChange Rows.fnExactPolicyOKSpec) false w args)
      (Rows.fnExactPolicyOKSpec.post enc Tryz.prog Tryz.f8 false true false false) := by
  refine lifted_shaped (C := Tryz.checked) (X := fun w _ => laidMetH Tryz.prog lay5 w) (fun _ _ _ hh h => h.of_heap hh) own started (by kernel_rfl) Tryz.func8
    (ChangeSpec.witness_shaped (enc := enc) (C := Tryz.checked) (os := os) (X := fun w _ => laidMetH Tryz.prog lay5 w) false (World.doorLaid Tryz.prog 4000 os) #[.agg #[.string ⟨#[]⟩, .slice none 0 0, .slice none 0 0]] 12 rfl (World.shaped_of_RefB (by kernel_rfl) (by kernel_rfl)) (by kernel_rfl) (by kernel_rfl) (by kernel_rfl) (door_met os _)) ?_
  intro W base args ds gs before hval0 hW hL hsh
  have hval : ∀ (j : Nat) t v, Tryz.f8.params[j]? = some t → args[j]? = some v → Value.okWide Tryz.prog W .any base t v := hval0
  have hW' := hW
  obtain ⟨p, q, hA0, hV, rfl, _, _⟩ := hW
  have hA : DataW.TrodAll enc Tryz.prog W 0 (fun _ => true) true Tryz.f8.params.toList args.toList ds p := hA0
  rw [paramsPolicyOK] at hA hval
  obtain ⟨v0, d0, rfl, rfl, h0⟩ := trodAll_one hA
  obtain ⟨rfl, rfl⟩ := trodVars_none hV
  obtain ⟨a0, rfl, hz0⟩ := okWide_struct (fs := _) Tryz.underlying49 (hval 0 49 v0 rfl rfl)
  obtain ⟨r0, hr0, hq0⟩ := arg_agg (n := 5) (by kernel_rfl) hz0 h0
  obtain ⟨x0, e0, b0⟩ := policy_ofrv (n := 0) hr0
  rw [← e0] at hq0
  obtain ⟨I, hg, hb⟩ := gh_of hL hsh
  have hlaw := @law_PolicyOK I x0 b0
  refine (calls_of (v := .bool true) hlaw (fun g hgg => ⟨fun h => h, hg g hgg⟩) (fun g hgg => ⟨fun h => h, hb g hgg⟩) (.cons _ _ _ _ [] [] (.val _ _ hq0) .nil) (fun L w u hu => by cases hu; rfl)).mono fun e W' ⟨he, hbl⟩ => ?_
  exact ⟨_, he, post_true laidOut rfl Tryz.underlying4 rfl (by kernel_rfl) rfl hW' hbl⟩

theorem z1PolicyOK : (Rows.fnExactPolicyOKRow.inPlace == Tryz.prog.inPlace 8) = true := by kernel_rfl
theorem z2PolicyOK : (Rows.fnExactPolicyOKRow.unfollowed == Tryz.prog.unfollowed 8) = true := by kernel_rfl
theorem z3PolicyOK : (Rows.fnExactPolicyOKRow.recurses == Tryz.prog.recurses 8) = true := by kernel_rfl
theorem z4PolicyOK : (Rows.fnExactPolicyOKRow.named == Tryz.prog.varsNamed 8) = true := by kernel_rfl
theorem z5PolicyOK : mapsRowed Tryz.prog = true := by kernel_rfl
theorem z6PolicyOK : (Tryz.prog.stops == []) = true := by kernel_rfl
theorem z7PolicyOK : (Tryz.prog.stopKnobs == []) = true := by kernel_rfl
theorem z8PolicyOK : (Rows.fnExactPolicyOKRow.plainKeys == Tryz.prog.plainKeys) = true := by kernel_rfl
theorem z9PolicyOK : Tryz.prog.stopsHeard = true := by kernel_rfl
theorem z10PolicyOK : Tryz.prog.mayEnter = true := by kernel_rfl
theorem z11PolicyOK : (Rows.fnExactPolicyOKRow.lifted == Tryz.prog.liftsFinal) = true := by kernel_rfl
theorem z12PolicyOK : Tryz.prog.funcNamed "loop.example/g00779/laws.FnExactPolicyOK" = some 8 := by kernel_rfl
theorem closedPolicyOK : joinedFacts Tryz.prog 8 Tryz.f8 Rows.fnExactPolicyOKSpec Rows.fnExactPolicyOKRow = true := by
  unfold joinedFacts
  simp only [Bool.and_eq_true]
  repeat' (apply And.intro)
  all_goals first
    | with_reducible exact laidOut
    | with_reducible exact z1PolicyOK
    | with_reducible exact z2PolicyOK
    | with_reducible exact z3PolicyOK
    | with_reducible exact z4PolicyOK
    | with_reducible exact z5PolicyOK
    | with_reducible exact z6PolicyOK
    | with_reducible exact z7PolicyOK
    | with_reducible exact z8PolicyOK
    | with_reducible exact z9PolicyOK
    | with_reducible exact z10PolicyOK
    | with_reducible exact z11PolicyOK
    | kernel_rfl

theorem instPolicyOK : Tryz.f8.isInstance Tryz.prog Rows.fnExactPolicyOKRow.origin Rows.fnExactPolicyOKRow.targs := of_decide_eq_true (by kernel_rfl)
theorem wrapPolicyOK : Tryz.f8.isWrapper Tryz.prog Rows.fnExactPolicyOKRow.wrapper Rows.fnExactPolicyOKRow.mainSum := by
  unfold Func.isWrapper; first | (rw [if_pos (by decide +kernel)]; kernel_rfl) | (rw [if_neg (by decide +kernel)]; exact ⟨rfl, rfl⟩)
theorem rowPolicyOK : Rows.FnExactPolicyOKSaid :=
  OpenClaim.holds_of_wide 8 Tryz.f8 rfl rfl rfl rfl rfl rfl rfl ⟨rfl, rfl, rfl, rfl, rfl⟩ rfl rfl rfl rfl rfl z12PolicyOK Tryz.func8 closedPolicyOK instPolicyOK wrapPolicyOK
    (fun os started H enc _ => liftedPolicyOK os started H enc)

theorem y1PolicyOK : Rows.fnExactPolicyOKRow.wfByText (OpenSpec.ofChange Rows.fnExactPolicyOKSpec) = true := by kernel_rfl
theorem y2PolicyOK : Tryz.prog.mainIs = some (true, "9e1acf34d2e11551000dc3c64ac39e34b40ed56a9b6c26527531e028de39efab".toList) := by kernel_rfl
theorem y3PolicyOK : true = Tryz.prog.looks [] := by kernel_rfl
theorem y4PolicyOK : false = Rows.fnExactPolicyOKRow.goesBy Tryz.prog := by kernel_rfl
theorem policyOK_card : Rows.FnExactPolicyOKCardSaid :=
  Claim7.holds_tied_plain_at .later [] [.data, .data, .data, .sentinel, .sentinel] true (true, "9e1acf34d2e11551000dc3c64ac39e34b40ed56a9b6c26527531e028de39efab") true
    rowPolicyOK (fun _ h => by cases h) y1PolicyOK (fun _ h => by cases h) fnExactPolicyOK_row_tie rfl ⟨rfl, rfl⟩ y2PolicyOK rfl
    (fun f fn hf hfn => by
      obtain rfl : f = 8 := Option.some.inj (z12PolicyOK.symm.trans hf) |>.symm
      obtain rfl : fn = Tryz.f8 := (Option.some.inj (Tryz.func8.symm.trans hfn)).symm
      exact ⟨y3PolicyOK, fun j t ht => by
        rw [paramsPolicyOK] at ht
        match j, ht with
        | 0, ht =>
          obtain rfl : 49 = t := by simpa using ht
          exact (show Tryz.prog.wantsStandIn 49 = false by kernel_rfl)
        | j + 1, ht => simp at ht⟩)
    y4PolicyOK
end Go.Proofs.YtmilnihobbgopaaGreatDoor
end
