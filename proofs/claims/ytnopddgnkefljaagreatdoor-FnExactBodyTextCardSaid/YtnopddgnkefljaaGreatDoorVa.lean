/- Va: merged out of KVExactBodyText. -/
import Derived.Test.YtnopddgnkefljaaGreatDoorFb
import Derived.Test.YtnopddgnkefljaaGreatDoorEl
import Derived.Test.YtnopddgnkefljaaGreatDoorTie
import Derived.Test.YtnopddgnkefljaaGreatDoorCards
import Derived.SevenTiedAt
import Derived.ChangeMaps5

/- THE CARD OF 'laws.FnExactBodyText': for every input the call returns true, and each argument reads as it did; the listed variables of the library are tied to the program's text. MADE BY PROGRAM (gen_row.py). -/
section
set_option maxRecDepth 100000
set_option linter.unusedVariables false
namespace Go.Proofs.YtnopddgnkefljaaGreatDoor
open Go Go.ChangeMaps Go.ChangeShapes Go.WideShapes Go.ChangeAt Go.RowKit Go.PW Go.KP

theorem paramsBodyText : Tryz.f7.params = #[23] := rfl

theorem liftedBodyText (os : Os) (started : os.Started) (H : Type) (enc : TypeId × Value → H) :
    ReturnsInHanded {} Tryz.checked os 7 .any (fun w args => (Rows.fnExactBodyTextSpec.pre enc Tryz.prog Tryz.f7 [] false w args ∧ laidMetH Tryz.prog lay5 w) ∧ sizedMet enc Tryz.prog Tryz.f7 (OpenSpec.ofChange Rows.fnExactBodyTextSpec) false w args)
      (Rows.fnExactBodyTextSpec.post enc Tryz.prog Tryz.f7 false true false false) := by
  refine lifted_shaped (C := Tryz.checked) (X := fun w _ => laidMetH Tryz.prog lay5 w) (fun _ _ _ hh h => h.of_heap hh) own started (by kernel_rfl) Tryz.func7
    (ChangeSpec.witness_shaped (enc := enc) (C := Tryz.checked) (os := os) (X := fun w _ => laidMetH Tryz.prog lay5 w) false (World.doorLaid Tryz.prog 4000 os) #[.agg #[.string ⟨#[]⟩, .string ⟨#[]⟩, .string ⟨#[]⟩, .string ⟨#[]⟩, .string ⟨#[]⟩, .string ⟨#[]⟩, .int .i64 0, .int .i64 0, .bool false]] 12 rfl (World.shaped_of_RefB (by kernel_rfl) (by kernel_rfl)) (by kernel_rfl) (by kernel_rfl) (by kernel_rfl) (door_met os _)) ?_
  intro W base args ds gs before hval0 hW hL hsh
  have hval : ∀ (j : Nat) t v, Tryz.f7.params[j]? = some t → args[j]? = some v → Value.okWide Tryz.prog W .any base t v := hval0
  have hW' := hW
  obtain ⟨p, q, hA0, hV, rfl, _, _⟩ := hW
  have hA : DataW.TrodAll enc Tryz.prog W 0 (fun _ => true) true Tryz.f7.params.toList args.toList ds p := hA0
  rw [paramsBodyText] at hA hval
  obtain ⟨v0, d0, rfl, rfl, h0⟩ := trodAll_one hA
  obtain ⟨rfl, rfl⟩ := trodVars_none hV
  obtain ⟨a0, rfl, hz0⟩ := okWide_struct (fs := _) Tryz.underlying23 (hval 0 23 v0 rfl rfl)
  obtain ⟨r0, hr0, hq0⟩ := arg_agg (n := 2) (by kernel_rfl) hz0 h0
  obtain ⟨x0, e0, b0⟩ := violation_ofrv (n := 0) hr0
  rw [← e0] at hq0
  obtain ⟨I, hg, hb⟩ := gh_of hL hsh
  have hlaw := @law_BodyText I x0 b0
  refine (calls_of (v := .bool true) hlaw (fun g hgg => ⟨fun h => h, hg g hgg⟩) (fun g hgg => ⟨fun h => h, hb g hgg⟩) (.cons _ _ _ _ [] [] (.val _ _ hq0) .nil) (fun L w u hu => by cases hu; rfl)).mono fun e W' ⟨he, hbl⟩ => ?_
  exact ⟨_, he, post_true laidOut rfl Tryz.underlying4 rfl (by kernel_rfl) rfl hW' hbl⟩

theorem z1BodyText : (Rows.fnExactBodyTextRow.inPlace == Tryz.prog.inPlace 7) = true := by kernel_rfl
theorem z2BodyText : (Rows.fnExactBodyTextRow.unfollowed == Tryz.prog.unfollowed 7) = true := by kernel_rfl
theorem z3BodyText : (Rows.fnExactBodyTextRow.recurses == Tryz.prog.recurses 7) = true := by kernel_rfl
theorem z4BodyText : (Rows.fnExactBodyTextRow.named == Tryz.prog.varsNamed 7) = true := by kernel_rfl
theorem z8BodyText : (Rows.fnExactBodyTextRow.plainKeys == Tryz.prog.plainKeys) = true := by rw [z8All]; rfl
theorem z11BodyText : (Rows.fnExactBodyTextRow.lifted == Tryz.prog.liftsFinal) = true := by rw [z11All]; rfl
theorem z12BodyText : Tryz.prog.funcNamed "loop.example/g00779/laws.FnExactBodyText" = some 7 := by kernel_rfl
theorem closedBodyText : joinedFacts Tryz.prog 7 Tryz.f7 Rows.fnExactBodyTextSpec Rows.fnExactBodyTextRow = true := by
  unfold joinedFacts
  simp only [Bool.and_eq_true]
  repeat' (apply And.intro)
  all_goals first
    | with_reducible exact laidOut
    | with_reducible exact z1BodyText
    | with_reducible exact z2BodyText
    | with_reducible exact z3BodyText
    | with_reducible exact z4BodyText
    | with_reducible exact z5All
    | with_reducible exact z6All
    | with_reducible exact z7All
    | with_reducible exact z8BodyText
    | with_reducible exact z9All
    | with_reducible exact z10All
    | with_reducible exact z11BodyText
    | kernel_rfl

theorem instBodyText : Tryz.f7.isInstance Tryz.prog Rows.fnExactBodyTextRow.origin Rows.fnExactBodyTextRow.targs := of_decide_eq_true (by kernel_rfl)
theorem wrapBodyText : Tryz.f7.isWrapper Tryz.prog Rows.fnExactBodyTextRow.wrapper Rows.fnExactBodyTextRow.mainSum := by
  unfold Func.isWrapper; first | (rw [if_pos (by decide +kernel)]; kernel_rfl) | (rw [if_neg (by decide +kernel)]; exact ⟨rfl, rfl⟩)
theorem rowBodyText : Rows.FnExactBodyTextSaid :=
  OpenClaim.holds_of_wide 7 Tryz.f7 rfl rfl rfl rfl rfl rfl rfl ⟨rfl, rfl, rfl, rfl, rfl⟩ rfl rfl rfl rfl rfl z12BodyText Tryz.func7 closedBodyText instBodyText wrapBodyText
    (fun os started H enc _ => liftedBodyText os started H enc)

theorem y1BodyText : Rows.fnExactBodyTextRow.wfByText (OpenSpec.ofChange Rows.fnExactBodyTextSpec) = true := by kernel_rfl
theorem y4BodyText : false = Rows.fnExactBodyTextRow.goesBy Tryz.prog := by kernel_rfl
theorem bodyText_card : Rows.FnExactBodyTextCardSaid :=
  Claim7.holds_tied_plain_at .later [] [.data, .data, .data, .sentinel, .sentinel] true (true, "9a82fa75ed562d8c26fb36ce180077d7c6cd2abbad0cd8d94e3f41441645e045") true
    rowBodyText (fun _ h => by cases h) y1BodyText (fun _ h => by cases h) fnExactBodyText_row_tie rfl ⟨rfl, rfl⟩ y2All rfl
    (fun f fn hf hfn => by
      obtain rfl : f = 7 := Option.some.inj (z12BodyText.symm.trans hf) |>.symm
      obtain rfl : fn = Tryz.f7 := (Option.some.inj (Tryz.func7.symm.trans hfn)).symm
      exact ⟨y3All, fun j t ht => by
        rw [paramsBodyText] at ht
        match j, ht with
        | 0, ht =>
          obtain rfl : 23 = t := by simpa using ht
          exact (show Tryz.prog.wantsStandIn 23 = false by kernel_rfl)
        | j + 1, ht => simp at ht⟩)
    y4BodyText
end Go.Proofs.YtnopddgnkefljaaGreatDoor
end
