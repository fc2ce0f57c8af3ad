/- Va: merged out of KVExactAlikeOutside. -/
import Derived.Test.YtnopddgnkefljaaGreatDoorFb
import Derived.Test.YtnopddgnkefljaaGreatDoorEm
import Derived.Test.YtnopddgnkefljaaGreatDoorTie
import Derived.Test.YtnopddgnkefljaaGreatDoorCards
import Derived.SevenTiedAt
import Derived.ChangeMaps5

/- THE CARD OF 'laws.FnExactAlikeOutside': for every input the call returns true, and each argument reads as it did; the listed variables of the library are tied to the program's text. MADE BY PROGRAM (gen_row.py). -/
section
set_option maxRecDepth 100000
set_option linter.unusedVariables false
namespace Go.Proofs.YtnopddgnkefljaaGreatDoor
open Go Go.ChangeMaps Go.ChangeShapes Go.WideShapes Go.ChangeAt Go.RowKit Go.PW Go.KP

theorem paramsAlikeOutside : Tryz.f3.params = #[23, 23] := rfl

theorem liftedAlikeOutside (os : Os) (started : os.Started) (H : Type) (enc : TypeId × Value → H) :
    ReturnsInHanded {} Tryz.checked os 3 .any (fun w args => (Rows.fnExactAlikeOutsideSpec.pre enc Tryz.prog Tryz.f3 [] false w args ∧ laidMetH Tryz.prog lay5 w) ∧ sizedMet enc Tryz.prog Tryz.f3 (OpenSpec.ofChange Rows.fnExactAlikeOutsideSpec) false w args)
      (Rows.fnExactAlikeOutsideSpec.post enc Tryz.prog Tryz.f3 false true false false) := by
  refine lifted_shaped (C := Tryz.checked) (X := fun w _ => laidMetH Tryz.prog lay5 w) (fun _ _ _ hh h => h.of_heap hh) own started (by kernel_rfl) Tryz.func3
    (ChangeSpec.witness_shaped (enc := enc) (C := Tryz.checked) (os := os) (X := fun w _ => laidMetH Tryz.prog lay5 w) false (World.doorLaid Tryz.prog 4000 os) #[.agg #[.string ⟨#[]⟩, .string ⟨#[]⟩, .string ⟨#[]⟩, .string ⟨#[]⟩, .string ⟨#[]⟩, .string ⟨#[]⟩, .int .i64 0, .int .i64 0, .bool false], .agg #[.string ⟨#[]⟩, .string ⟨#[]⟩, .string ⟨#[]⟩, .string ⟨#[]⟩, .string ⟨#[]⟩, .string ⟨#[]⟩, .int .i64 0, .int .i64 0, .bool false]] 12 rfl (World.shaped_of_RefB (by kernel_rfl) (by kernel_rfl)) (by kernel_rfl) (by kernel_rfl) (by kernel_rfl) (door_met os _)) ?_
  intro W base args ds gs before hval0 hW hL hsh
  have hval : ∀ (j : Nat) t v, Tryz.f3.params[j]? = some t → args[j]? = some v → Value.okWide Tryz.prog W .any base t v := hval0
  have hW' := hW
  obtain ⟨p, q, hA0, hV, rfl, _, _⟩ := hW
  have hA : DataW.TrodAll enc Tryz.prog W 0 (fun _ => true) true Tryz.f3.params.toList args.toList ds p := hA0
  rw [paramsAlikeOutside] at hA hval
  obtain ⟨v0, v1, d0, d1, p0, p1, rfl, rfl, rfl, h0, h1⟩ := trodAll_two hA
  obtain ⟨rfl, rfl⟩ := trodVars_none hV
  obtain ⟨a0, rfl, hz0⟩ := okWide_struct (fs := _) Tryz.underlying23 (hval 0 23 v0 rfl rfl)
  obtain ⟨r0, hr0, hq0⟩ := arg_agg (n := 2) (by kernel_rfl) hz0 h0
  obtain ⟨x0, e0, b0⟩ := violation_ofrv (n := 0) hr0
  rw [← e0] at hq0
  obtain ⟨a1, rfl, hz1⟩ := okWide_struct (fs := _) Tryz.underlying23 (hval 1 23 v1 rfl rfl)
  obtain ⟨r1, hr1, hq1⟩ := arg_agg (n := 2) (by kernel_rfl) hz1 h1
  obtain ⟨x1, e1, b1⟩ := violation_ofrv (n := 0) hr1
  rw [← e1] at hq1
  obtain ⟨I, hg, hb⟩ := gh_of hL hsh
  have hlaw := @law_AlikeOutside I x0 x1 b0 b1
  refine (calls_of (v := .bool true) hlaw (fun g hgg => ⟨fun h => h, hg g hgg⟩) (fun g hgg => ⟨fun h => h, hb g hgg⟩) (.cons _ _ _ _ [] [] (.val _ _ hq0) (.cons _ _ _ _ [] [] (.val _ _ hq1) .nil)) (fun L w u hu => by cases hu; rfl)).mono fun e W' ⟨he, hbl⟩ => ?_
  exact ⟨_, he, post_true laidOut rfl Tryz.underlying4 rfl (by kernel_rfl) rfl hW' hbl⟩

theorem z1AlikeOutside : (Rows.fnExactAlikeOutsideRow.inPlace == Tryz.prog.inPlace 3) = true := by kernel_rfl
theorem z2AlikeOutside : (Rows.fnExactAlikeOutsideRow.unfollowed == Tryz.prog.unfollowed 3) = true := by kernel_rfl
theorem z3AlikeOutside : (Rows.fnExactAlikeOutsideRow.recurses == Tryz.prog.recurses 3) = true := by kernel_rfl
theorem z4AlikeOutside : (Rows.fnExactAlikeOutsideRow.named == Tryz.prog.varsNamed 3) = true := by kernel_rfl
theorem z8AlikeOutside : (Rows.fnExactAlikeOutsideRow.plainKeys == Tryz.prog.plainKeys) = true := by rw [z8All]; rfl
theorem z11AlikeOutside : (Rows.fnExactAlikeOutsideRow.lifted == Tryz.prog.liftsFinal) = true := by rw [z11All]; rfl
theorem z12AlikeOutside : Tryz.prog.funcNamed "loop.example/g00779/laws.FnExactAlikeOutside" = some 3 := by kernel_rfl
theorem closedAlikeOutside : joinedFacts Tryz.prog 3 Tryz.f3 Rows.fnExactAlikeOutsideSpec Rows.fnExactAlikeOutsideRow = true := by
  unfold joinedFacts
  simp only [Bool.and_eq_true]
  repeat' (apply And.intro)
  all_goals first
    | with_reducible exact laidOut
    | with_reducible exact z1AlikeOutside
    | with_reducible exact z2AlikeOutside
    | with_reducible exact z3AlikeOutside
    | with_reducible exact z4AlikeOutside
    | with_reducible exact z5All
    | with_reducible exact z6All
    | with_reducible exact z7All
    | with_reducible exact z8AlikeOutside
    | with_reducible exact z9All
    | with_reducible exact z10All
    | with_reducible exact z11AlikeOutside
    | kernel_rfl

theorem instAlikeOutside : Tryz.f3.isInstance Tryz.prog Rows.fnExactAlikeOutsideRow.origin Rows.fnExactAlikeOutsideRow.targs := of_decide_eq_true (by kernel_rfl)
theorem wrapAlikeOutside : Tryz.f3.isWrapper Tryz.prog Rows.fnExactAlikeOutsideRow.wrapper Rows.fnExactAlikeOutsideRow.mainSum := by
  unfold Func.isWrapper; first | (rw [if_pos (by decide +kernel)]; kernel_rfl) | (rw [if_neg (by decide +kernel)]; exact ⟨rfl, rfl⟩)
theorem rowAlikeOutside : Rows.FnExactAlikeOutsideSaid :=
  OpenClaim.holds_of_wide 3 Tryz.f3 rfl rfl rfl rfl rfl rfl rfl ⟨rfl, rfl, rfl, rfl, rfl⟩ rfl rfl rfl rfl rfl z12AlikeOutside Tryz.func3 closedAlikeOutside instAlikeOutside wrapAlikeOutside
    (fun os started H enc _ => liftedAlikeOutside os started H enc)

theorem y1AlikeOutside : Rows.fnExactAlikeOutsideRow.wfByText (OpenSpec.ofChange Rows.fnExactAlikeOutsideSpec) = true := by kernel_rfl
theorem y4AlikeOutside : false = Rows.fnExactAlikeOutsideRow.goesBy Tryz.prog := by kernel_rfl
theorem alikeOutside_card : Rows.FnExactAlikeOutsideCardSaid :=
  Claim7.holds_tied_plain_at .later [] [.data, .data, .data, .sentinel, .sentinel] true (true, "9a82fa75ed562d8c26fb36ce180077d7c6cd2abbad0cd8d94e3f41441645e045") true
    rowAlikeOutside (fun _ h => by cases h) y1AlikeOutside (fun _ h => by cases h) fnExactAlikeOutside_row_tie rfl ⟨rfl, rfl⟩ y2All rfl
    (fun f fn hf hfn => by
      obtain rfl : f = 3 := Option.some.inj (z12AlikeOutside.symm.trans hf) |>.symm
      obtain rfl : fn = Tryz.f3 := (Option.some.inj (Tryz.func3.symm.trans hfn)).symm
      exact ⟨y3All, fun j t ht => by
        rw [paramsAlikeOutside] at ht
        match j, ht with
        | 0, ht =>
          obtain rfl : 23 = t := by simpa using ht
          exact (show Tryz.prog.wantsStandIn 23 = false by kernel_rfl)
        | 1, ht =>
          obtain rfl : 23 = t := by simpa using ht
          exact (show Tryz.prog.wantsStandIn 23 = false by kernel_rfl)
        | j + 2, ht => simp at ht⟩)
    y4AlikeOutside
end Go.Proofs.YtnopddgnkefljaaGreatDoor
end
