/- Va: merged out of KVExactSamePipe. -/
import Derived.Test.YtaohlnejdphldaaGreatDoorFb
import Derived.Test.YtaohlnejdphldaaGreatDoorEi
import Derived.Test.YtaohlnejdphldaaGreatDoorTie
import Derived.Test.YtaohlnejdphldaaGreatDoorCards
import Derived.SevenTiedAt
import Derived.ChangeMaps5

/- THE CARD OF 'laws.FnExactSamePipe': for every input the call returns true, and each argument reads as it did; the listed variables of the library are tied to the program's text. MADE BY PROGRAM (gen_row.py). -/
section
set_option maxRecDepth 100000
set_option linter.unusedVariables false
namespace Go.Proofs.YtaohlnejdphldaaGreatDoor
open Go Go.ChangeMaps Go.ChangeShapes Go.WideShapes Go.ChangeAt Go.RowKit Go.PW Go.KP

theorem paramsSamePipe : Tryz.f6.params = #[30, 30] := rfl

theorem liftedSamePipe (os : Os) (started : os.Started) (H : Type) (enc : TypeId × Value → H) :
    ReturnsInHanded {} Tryz.checked os 6 .any (fun w args => (Rows.fnExactSamePipeSpec.pre enc Tryz.prog Tryz.f6 [] false w args ∧ laidMetH Tryz.prog lay5 w) ∧ sizedMet enc Tryz.prog Tryz.f6 (OpenSpec.ofChange Rows.fnExactSamePipeSpec) false w args)
      (Rows.fnExactSamePipeSpec.post enc Tryz.prog Tryz.f6 false true false false) := by
  refine lifted_shaped (C := Tryz.checked) (X := fun w _ => laidMetH Tryz.prog lay5 w) (fun _ _ _ hh h => h.of_heap hh) own started (by kernel_rfl) Tryz.func6
    (ChangeSpec.witness_shaped (enc := enc) (C := Tryz.checked) (os := os) (X := fun w _ => laidMetH Tryz.prog lay5 w) false (World.doorLaid Tryz.prog 4000 os) #[.agg #[.slice none 0 0, .string ⟨#[]⟩, .slice none 0 0, .slice none 0 0, .int .i64 0, .int .i64 0, .slice none 0 0, .slice none 0 0], .agg #[.slice none 0 0, .string ⟨#[]⟩, .slice none 0 0, .slice none 0 0, .int .i64 0, .int .i64 0, .slice none 0 0, .slice none 0 0]] 12 rfl (World.shaped_of_RefB (by kernel_rfl) (by kernel_rfl)) (by kernel_rfl) (by kernel_rfl) (by kernel_rfl) (door_met os _)) ?_
  intro W base args ds gs before hval0 hW hL hsh
  have hval : ∀ (j : Nat) t v, Tryz.f6.params[j]? = some t → args[j]? = some v → Value.okWide Tryz.prog W .any base t v := hval0
  have hW' := hW
  obtain ⟨p, q, hA0, hV, rfl, _, _⟩ := hW
  have hA : DataW.TrodAll enc Tryz.prog W 0 (fun _ => true) true Tryz.f6.params.toList args.toList ds p := hA0
  rw [paramsSamePipe] at hA hval
  obtain ⟨v0, v1, d0, d1, p0, p1, rfl, rfl, rfl, h0, h1⟩ := trodAll_two hA
  obtain ⟨rfl, rfl⟩ := trodVars_none hV
  obtain ⟨a0, rfl, hz0⟩ := okWide_struct (fs := _) Tryz.underlying30 (hval 0 30 v0 rfl rfl)
  obtain ⟨r0, hr0, hq0⟩ := arg_agg (n := 7) (by kernel_rfl) hz0 h0
  obtain ⟨x0, e0, b0⟩ := pipe_ofrv (n := 0) hr0
  rw [← e0] at hq0
  obtain ⟨a1, rfl, hz1⟩ := okWide_struct (fs := _) Tryz.underlying30 (hval 1 30 v1 rfl rfl)
  obtain ⟨r1, hr1, hq1⟩ := arg_agg (n := 7) (by kernel_rfl) hz1 h1
  obtain ⟨x1, e1, b1⟩ := pipe_ofrv (n := 0) hr1
  rw [← e1] at hq1
  obtain ⟨I, hg, hb⟩ := gh_of hL hsh
  have hlaw := @law_SamePipe I x0 x1 b0 b1
  refine (calls_of (v := .bool true) hlaw (fun g hgg => ⟨fun h => h, hg g hgg⟩) (fun g hgg => ⟨fun h => h, hb g hgg⟩) (.cons _ _ _ _ [] [] (.val _ _ hq0) (.cons _ _ _ _ [] [] (.val _ _ hq1) .nil)) (fun L w u hu => by cases hu; rfl)).mono fun e W' ⟨he, hbl⟩ => ?_
  exact ⟨_, he, post_true laidOut rfl Tryz.underlying4 rfl (by kernel_rfl) rfl hW' hbl⟩

theorem z1SamePipe : (Rows.fnExactSamePipeRow.inPlace == Tryz.prog.inPlace 6) = true := by kernel_rfl
theorem z2SamePipe : (Rows.fnExactSamePipeRow.unfollowed == Tryz.prog.unfollowed 6) = true := by kernel_rfl
theorem z3SamePipe : (Rows.fnExactSamePipeRow.recurses == Tryz.prog.recurses 6) = true := by kernel_rfl
theorem z4SamePipe : (Rows.fnExactSamePipeRow.named == Tryz.prog.varsNamed 6) = true := by kernel_rfl
theorem z8SamePipe : (Rows.fnExactSamePipeRow.plainKeys == Tryz.prog.plainKeys) = true := by rw [z8All]; rfl
theorem z11SamePipe : (Rows.fnExactSamePipeRow.lifted == Tryz.prog.liftsFinal) = true := by rw [z11All]; rfl
theorem z12SamePipe : Tryz.prog.funcNamed "loop.example/g00779/laws.FnExactSamePipe" = some 6 := by kernel_rfl
theorem closedSamePipe : joinedFacts Tryz.prog 6 Tryz.f6 Rows.fnExactSamePipeSpec Rows.fnExactSamePipeRow = true := by
  unfold joinedFacts
  simp only [Bool.and_eq_true]
  repeat' (apply And.intro)
  all_goals first
    | with_reducible exact laidOut
    | with_reducible exact z1SamePipe
    | with_reducible exact z2SamePipe
    | with_reducible exact z3SamePipe
    | with_reducible exact z4SamePipe
    | with_reducible exact z5All
    | with_reducible exact z6All
    | with_reducible exact z7All
    | with_reducible exact z8SamePipe
    | with_reducible exact z9All
    | with_reducible exact z10All
    | with_reducible exact z11SamePipe
    | kernel_rfl

theorem instSamePipe : Tryz.f6.isInstance Tryz.prog Rows.fnExactSamePipeRow.origin Rows.fnExactSamePipeRow.targs := of_decide_eq_true (by kernel_rfl)
theorem wrapSamePipe : Tryz.f6.isWrapper Tryz.prog Rows.fnExactSamePipeRow.wrapper Rows.fnExactSamePipeRow.mainSum := by
  unfold Func.isWrapper; first | (rw [if_pos (by decide +kernel)]; kernel_rfl) | (rw [if_neg (by decide +kernel)]; exact ⟨rfl, rfl⟩)
theorem rowSamePipe : Rows.FnExactSamePipeSaid :=
  OpenClaim.holds_of_wide 6 Tryz.f6 rfl rfl rfl rfl rfl rfl rfl ⟨rfl, rfl, rfl, rfl, rfl⟩ rfl rfl rfl rfl rfl z12SamePipe Tryz.func6 closedSamePipe instSamePipe wrapSamePipe
    (fun os started H enc _ => liftedSamePipe os started H enc)

theorem y1SamePipe : Rows.fnExactSamePipeRow.wfByText (OpenSpec.ofChange Rows.fnExactSamePipeSpec) = true := by kernel_rfl
theorem y4SamePipe : false = Rows.fnExactSamePipeRow.goesBy Tryz.prog := by kernel_rfl
theorem samePipe_card : Rows.FnExactSamePipeCardSaid :=
  Claim7.holds_tied_plain_at .later [] [.data, .data, .data, .sentinel, .sentinel] true (true, "7fb74b68752ed7b2d68f9e56d830967882877d14b697e7be9412e3ef2715ee28") true
    rowSamePipe (fun _ h => by cases h) y1SamePipe (fun _ h => by cases h) fnExactSamePipe_row_tie rfl ⟨rfl, rfl⟩ y2All rfl
    (fun f fn hf hfn => by
      obtain rfl : f = 6 := Option.some.inj (z12SamePipe.symm.trans hf) |>.symm
      obtain rfl : fn = Tryz.f6 := (Option.some.inj (Tryz.func6.symm.trans hfn)).symm
      exact ⟨y3All, fun j t ht => by
        rw [paramsSamePipe] at ht
        match j, ht with
        | 0, ht =>
          obtain rfl : 30 = t := by simpa using ht
          exact (show Tryz.prog.wantsStandIn 30 = false by kernel_rfl)
        | 1, ht =>
          obtain rfl : 30 = t := by simpa using ht
          exact (show Tryz.prog.wantsStandIn 30 = false by kernel_rfl)
        | j + 2, ht => simp at ht⟩)
    y4SamePipe
end Go.Proofs.YtaohlnejdphldaaGreatDoor
end
