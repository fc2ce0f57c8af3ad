/- Va: merged out of KVExactPolicyText. -/
import Derived.Test.YtnopddgnkefljaaGreatDoorFb
import Derived.Test.YtnopddgnkefljaaGreatDoorEj
import Derived.Test.YtnopddgnkefljaaGreatDoorTie
import Derived.Test.YtnopddgnkefljaaGreatDoorCards
import Derived.SevenTiedAt
import Derived.ChangeMaps5

/- THE CARD OF 'laws.FnExactPolicyText': for every input the call returns true, and each argument reads as it did; the listed variables of the library are tied to the program's text. MADE BY PROGRAM (gen_row.py). -/
section
set_option maxRecDepth 100000
set_option linter.unusedVariables false
namespace Go.Proofs.YtnopddgnkefljaaGreatDoor
open Go Go.ChangeMaps Go.ChangeShapes Go.WideShapes Go.ChangeAt Go.RowKit Go.PW Go.KP

theorem paramsPolicyText : Tryz.f8.params = #[60] := rfl

theorem liftedPolicyText (os : Os) (started : os.Started) (H : Type) (enc : TypeId × Value → H) :
    ReturnsInHanded {} Tryz.checked os 8 .any (fun w args => (Rows.fnExactPolicyTextSpec.pre enc Tryz.prog Tryz.f8 [] false w args ∧ laidMetH Tryz.prog lay5 w) ∧ sizedMet enc Tryz.prog Tryz.f8 (OpenSpec.ofChange Rows.fnExactPolicyTextSpec) false w args)
      (Rows.fnExactPolicyTextSpec.post enc Tryz.prog Tryz.f8 false true false false) := by
  refine lifted_shaped (C := Tryz.checked) (X := fun w _ => laidMetH Tryz.prog lay5 w) (fun _ _ _ hh h => h.of_heap hh) own started (by kernel_rfl) Tryz.func8
    (ChangeSpec.witness_shaped (enc := enc) (C := Tryz.checked) (os := os) (X := fun w _ => laidMetH Tryz.prog lay5 w) false (World.doorLaid Tryz.prog 4000 os) #[.agg #[.string ⟨#[]⟩, .slice none 0 0, .slice none 0 0]] 12 rfl (World.shaped_of_RefB (by kernel_rfl) (by kernel_rfl)) (by kernel_rfl) (by kernel_rfl) (by kernel_rfl) (door_met os _)) ?_
  intro W base args ds gs before hval0 hW hL hsh
  have hval : ∀ (j : Nat) t v, Tryz.f8.params[j]? = some t → args[j]? = some v → Value.okWide Tryz.prog W .any base t v := hval0
  have hW' := hW
  obtain ⟨p, q, hA0, hV, rfl, _, _⟩ := hW
  have hA : DataW.TrodAll enc Tryz.prog W 0 (fun _ => true) true Tryz.f8.params.toList args.toList ds p := hA0
  rw [paramsPolicyText] at hA hval
  obtain ⟨v0, d0, rfl, rfl, h0⟩ := trodAll_one hA
  obtain ⟨rfl, rfl⟩ := trodVars_none hV
  obtain ⟨a0, rfl, hz0⟩ := okWide_struct (fs := _) Tryz.underlying60 (hval 0 60 v0 rfl rfl)
  obtain ⟨r0, hr0, hq0⟩ := arg_agg (n := 5) (by kernel_rfl) hz0 h0
  obtain ⟨x0, e0, b0⟩ := policy_ofrv (n := 0) hr0
  rw [← e0] at hq0
  obtain ⟨I, hg, hb⟩ := gh_of hL hsh
  have hlaw := @law_PolicyText I x0 b0
  refine (calls_of (v := .bool true) hlaw (fun g hgg => ⟨fun h => h, hg g hgg⟩) (fun g hgg => ⟨fun h => h, hb g hgg⟩) (.cons _ _ _ _ [] [] (.val _ _ hq0) .nil) (fun L w u hu => by cases hu; rfl)).mono fun e W' ⟨he, hbl⟩ => ?_
  exact ⟨_, he, post_true laidOut rfl Tryz.underlying4 rfl (by kernel_rfl) rfl hW' hbl⟩

theorem z1PolicyText : (Rows.fnExactPolicyTextRow.inPlace == Tryz.prog.inPlace 8) = true := by kernel_rfl
theorem z2PolicyText : (Rows.fnExactPolicyTextRow.unfollowed == Tryz.prog.unfollowed 8) = true := by kernel_rfl
theorem z3PolicyText : (Rows.fnExactPolicyTextRow.recurses == Tryz.prog.recurses 8) = true := by kernel_rfl
theorem z4PolicyText : (Rows.fnExactPolicyTextRow.named == Tryz.prog.varsNamed 8) = true := by kernel_rfl
theorem z8PolicyText : (Rows.fnExactPolicyTextRow.plainKeys == Tryz.prog.plainKeys) = true := by rw [z8All]; rfl
theorem z11PolicyText : (Rows.fnExactPolicyTextRow.lifted == Tryz.prog.liftsFinal) = true := by rw [z11All]; rfl
theorem z12PolicyText : Tryz.prog.funcNamed "loop.example/g00779/laws.FnExactPolicyText" = some 8 := by kernel_rfl
theorem closedPolicyText : joinedFacts Tryz.prog 8 Tryz.f8 Rows.fnExactPolicyTextSpec Rows.fnExactPolicyTextRow = true := by
  unfold joinedFacts
  simp only [Bool.and_eq_true]
  repeat' (apply And.intro)
  all_goals first
    | with_reducible exact laidOut
    | with_reducible exact z1PolicyText
    | with_reducible exact z2PolicyText
    | with_reducible exact z3PolicyText
    | with_reducible exact z4PolicyText
    | with_reducible exact z5All
    | with_reducible exact z6All
    | with_reducible exact z7All
    | with_reducible exact z8PolicyText
    | with_reducible exact z9All
    | with_reducible exact z10All
    | with_reducible exact z11PolicyText
    | kernel_rfl

theorem instPolicyText : Tryz.f8.isInstance Tryz.prog Rows.fnExactPolicyTextRow.origin Rows.fnExactPolicyTextRow.targs := of_decide_eq_true (by kernel_rfl)
theorem wrapPolicyText : Tryz.f8.isWrapper Tryz.prog Rows.fnExactPolicyTextRow.wrapper Rows.fnExactPolicyTextRow.mainSum := by
  unfold Func.isWrapper; first | (rw [if_pos (by decide +kernel)]; kernel_rfl) | (rw [if_neg (by decide +kernel)]; exact ⟨rfl, rfl⟩)
theorem rowPolicyText : Rows.FnExactPolicyTextSaid :=
  OpenClaim.holds_of_wide 8 Tryz.f8 rfl rfl rfl rfl rfl rfl rfl ⟨rfl, rfl, rfl, rfl, rfl⟩ rfl rfl rfl rfl rfl z12PolicyText Tryz.func8 closedPolicyText instPolicyText wrapPolicyText
    (fun os started H enc _ => liftedPolicyText os started H enc)

theorem y1PolicyText : Rows.fnExactPolicyTextRow.wfByText (OpenSpec.ofChange Rows.fnExactPolicyTextSpec) = true := by kernel_rfl
theorem y4PolicyText : false = Rows.fnExactPolicyTextRow.goesBy Tryz.prog := by kernel_rfl
theorem policyText_card : Rows.FnExactPolicyTextCardSaid :=
  Claim7.holds_tied_plain_at .later [] [.data, .data, .data, .sentinel, .sentinel] true (true, "9a82fa75ed562d8c26fb36ce180077d7c6cd2abbad0cd8d94e3f41441645e045") true
    rowPolicyText (fun _ h => by cases h) y1PolicyText (fun _ h => by cases h) fnExactPolicyText_row_tie rfl ⟨rfl, rfl⟩ y2All rfl
    (fun f fn hf hfn => by
      obtain rfl : f = 8 := Option.some.inj (z12PolicyText.symm.trans hf) |>.symm
      obtain rfl : fn = Tryz.f8 := (Option.some.inj (Tryz.func8.symm.trans hfn)).symm
      exact ⟨y3All, fun j t ht => by
        rw [paramsPolicyText] at ht
        match j, ht with
        | 0, ht =>
          obtain rfl : 60 = t := by simpa using ht
          exact (show Tryz.prog.wantsStandIn 60 = false by kernel_rfl)
        | j + 1, ht => simp at ht⟩)
    y4PolicyText
end Go.Proofs.YtnopddgnkefljaaGreatDoor
end
