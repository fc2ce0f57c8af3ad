/- Va: merged out of KVExactReportToText. -/
import Derived.Test.YtnopddgnkefljaaGreatDoorFb
import Derived.Test.YtnopddgnkefljaaGreatDoorEn
import Derived.Test.YtnopddgnkefljaaGreatDoorTie
import Derived.Test.YtnopddgnkefljaaGreatDoorCards
import Derived.SevenTiedAt
import Derived.ChangeMaps5

/- THE CARD OF 'laws.FnExactReportToText': for every input the call returns true, and each argument reads as it did; the listed variables of the library are tied to the program's text. MADE BY PROGRAM (gen_row.py). -/
section
set_option maxRecDepth 100000
set_option linter.unusedVariables false
namespace Go.Proofs.YtnopddgnkefljaaGreatDoor
open Go Go.ChangeMaps Go.ChangeShapes Go.WideShapes Go.ChangeAt Go.RowKit Go.PW Go.KP

theorem paramsReportToText : Tryz.f6.params = #[48] := rfl

theorem liftedReportToText (os : Os) (started : os.Started) (H : Type) (enc : TypeId × Value → H) :
    ReturnsInHanded {} Tryz.checked os 6 .any (fun w args => (Rows.fnExactReportToTextSpec.pre enc Tryz.prog Tryz.f6 [] false w args ∧ laidMetH Tryz.prog lay5 w) ∧ sizedMet enc Tryz.prog Tryz.f6 (OpenSpec.ofChange Rows.fnExactReportToTextSpec) false w args)
      (Rows.fnExactReportToTextSpec.post enc Tryz.prog Tryz.f6 false true false false) := by
  refine lifted_shaped (C := Tryz.checked) (X := fun w _ => laidMetH Tryz.prog lay5 w) (fun _ _ _ hh h => h.of_heap hh) own started (by kernel_rfl) Tryz.func6
    (ChangeSpec.witness_shaped (enc := enc) (C := Tryz.checked) (os := os) (X := fun w _ => laidMetH Tryz.prog lay5 w) false (World.doorLaid Tryz.prog 4000 os) #[.agg #[.string ⟨#[]⟩, .int .i64 0, .slice none 0 0]] 12 rfl (World.shaped_of_RefB (by kernel_rfl) (by kernel_rfl)) (by kernel_rfl) (by kernel_rfl) (by kernel_rfl) (door_met os _)) ?_
  intro W base args ds gs before hval0 hW hL hsh
  have hval : ∀ (j : Nat) t v, Tryz.f6.params[j]? = some t → args[j]? = some v → Value.okWide Tryz.prog W .any base t v := hval0
  have hW' := hW
  obtain ⟨p, q, hA0, hV, rfl, _, _⟩ := hW
  have hA : DataW.TrodAll enc Tryz.prog W 0 (fun _ => true) true Tryz.f6.params.toList args.toList ds p := hA0
  rw [paramsReportToText] at hA hval
  obtain ⟨v0, d0, rfl, rfl, h0⟩ := trodAll_one hA
  obtain ⟨rfl, rfl⟩ := trodVars_none hV
  obtain ⟨a0, rfl, hz0⟩ := okWide_struct (fs := _) Tryz.underlying48 (hval 0 48 v0 rfl rfl)
  obtain ⟨r0, hr0, hq0⟩ := arg_agg (n := 4) (by kernel_rfl) hz0 h0
  obtain ⟨x0, e0, b0⟩ := group_ofrv (n := 0) hr0
  rw [← e0] at hq0
  obtain ⟨I, hg, hb⟩ := gh_of hL hsh
  have hlaw := @law_ReportToText I x0 b0
  refine (calls_of (v := .bool true) hlaw (fun g hgg => ⟨fun h => h, hg g hgg⟩) (fun g hgg => ⟨fun h => h, hb g hgg⟩) (.cons _ _ _ _ [] [] (.val _ _ hq0) .nil) (fun L w u hu => by cases hu; rfl)).mono fun e W' ⟨he, hbl⟩ => ?_
  exact ⟨_, he, post_true laidOut rfl Tryz.underlying4 rfl (by kernel_rfl) rfl hW' hbl⟩

theorem z1ReportToText : (Rows.fnExactReportToTextRow.inPlace == Tryz.prog.inPlace 6) = true := by kernel_rfl
theorem z2ReportToText : (Rows.fnExactReportToTextRow.unfollowed == Tryz.prog.unfollowed 6) = true := by kernel_rfl
theorem z3ReportToText : (Rows.fnExactReportToTextRow.recurses == Tryz.prog.recurses 6) = true := by kernel_rfl
theorem z4ReportToText : (Rows.fnExactReportToTextRow.named == Tryz.prog.varsNamed 6) = true := by kernel_rfl
theorem z8ReportToText : (Rows.fnExactReportToTextRow.plainKeys == Tryz.prog.plainKeys) = true := by rw [z8All]; rfl
theorem z11ReportToText : (Rows.fnExactReportToTextRow.lifted == Tryz.prog.liftsFinal) = true := by rw [z11All]; rfl
theorem z12ReportToText : Tryz.prog.funcNamed "loop.example/g00779/laws.FnExactReportToText" = some 6 := by kernel_rfl
theorem closedReportToText : joinedFacts Tryz.prog 6 Tryz.f6 Rows.fnExactReportToTextSpec Rows.fnExactReportToTextRow = true := by
  unfold joinedFacts
  simp only [Bool.and_eq_true]
  repeat' (apply And.intro)
  all_goals first
    | with_reducible exact laidOut
    | with_reducible exact z1ReportToText
    | with_reducible exact z2ReportToText
    | with_reducible exact z3ReportToText
    | with_reducible exact z4ReportToText
    | with_reducible exact z5All
    | with_reducible exact z6All
    | with_reducible exact z7All
    | with_reducible exact z8ReportToText
    | with_reducible exact z9All
    | with_reducible exact z10All
    | with_reducible exact z11ReportToText
    | kernel_rfl

theorem instReportToText : Tryz.f6.isInstance Tryz.prog Rows.fnExactReportToTextRow.origin Rows.fnExactReportToTextRow.targs := of_decide_eq_true (by kernel_rfl)
theorem wrapReportToText : Tryz.f6.isWrapper Tryz.prog Rows.fnExactReportToTextRow.wrapper Rows.fnExactReportToTextRow.mainSum := by
  unfold Func.isWrapper; first | (rw [if_pos (by decide +kernel)]; kernel_rfl) | (rw [if_neg (by decide +kernel)]; exact ⟨rfl, rfl⟩)
theorem rowReportToText : Rows.FnExactReportToTextSaid :=
  OpenClaim.holds_of_wide 6 Tryz.f6 rfl rfl rfl rfl rfl rfl rfl ⟨rfl, rfl, rfl, rfl, rfl⟩ rfl rfl rfl rfl rfl z12ReportToText Tryz.func6 closedReportToText instReportToText wrapReportToText
    (fun os started H enc _ => liftedReportToText os started H enc)

theorem y1ReportToText : Rows.fnExactReportToTextRow.wfByText (OpenSpec.ofChange Rows.fnExactReportToTextSpec) = true := by kernel_rfl
theorem y4ReportToText : false = Rows.fnExactReportToTextRow.goesBy Tryz.prog := by kernel_rfl
theorem reportToText_card : Rows.FnExactReportToTextCardSaid :=
  Claim7.holds_tied_plain_at .later [] [.data, .data, .data, .sentinel, .sentinel] true (true, "9a82fa75ed562d8c26fb36ce180077d7c6cd2abbad0cd8d94e3f41441645e045") true
    rowReportToText (fun _ h => by cases h) y1ReportToText (fun _ h => by cases h) fnExactReportToText_row_tie rfl ⟨rfl, rfl⟩ y2All rfl
    (fun f fn hf hfn => by
      obtain rfl : f = 6 := Option.some.inj (z12ReportToText.symm.trans hf) |>.symm
      obtain rfl : fn = Tryz.f6 := (Option.some.inj (Tryz.func6.symm.trans hfn)).symm
      exact ⟨y3All, fun j t ht => by
        rw [paramsReportToText] at ht
        match j, ht with
        | 0, ht =>
          obtain rfl : 48 = t := by simpa using ht
          exact (show Tryz.prog.wantsStandIn 48 = false by kernel_rfl)
        | j + 1, ht => simp at ht⟩)
    y4ReportToText
end Go.Proofs.YtnopddgnkefljaaGreatDoor
end
