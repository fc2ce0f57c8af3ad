/- Va: merged out of KVExactLossesOf. -/
import Derived.Test.YtaohlnejdphldaaGreatDoorFb
import Derived.Test.YtaohlnejdphldaaGreatDoorEh
import Derived.Test.YtaohlnejdphldaaGreatDoorTie
import Derived.Test.YtaohlnejdphldaaGreatDoorCards
import Derived.SevenTiedAt
import Derived.ChangeMaps5

/- THE CARD OF 'laws.FnExactLossesOf': for every input the call returns true, and each argument reads as it did; the listed variables of the library are tied to the program's text. MADE BY PROGRAM (gen_row.py). -/
section
set_option maxRecDepth 100000
set_option linter.unusedVariables false
namespace Go.Proofs.YtaohlnejdphldaaGreatDoor
open Go Go.ChangeShapes Go.WideShapes Go.ChangeAt Go.RowKit Go.PW Go.KP

theorem paramsLossesOf : Tryz.f4.params = #[30, 3] := rfl

theorem liftedLossesOf (os : Os) (started : os.Started) (H : Type) (enc : TypeId × Value → H) :
    ReturnsInHanded {} Tryz.checked os 4 .any (fun w args => (Rows.fnExactLossesOfSpec.pre enc Tryz.prog Tryz.f4 [] false w args ∧ laidMetH Tryz.prog lay5 w) ∧ sizedMet enc Tryz.prog Tryz.f4 (OpenSpec.ofChange Rows.fnExactLossesOfSpec) false w args)
      (Rows.fnExactLossesOfSpec.post enc Tryz.prog Tryz.f4 false true false false) := by
  refine lifted_shaped (C := Tryz.checked) (X := fun w _ => laidMetH Tryz.prog lay5 w) (fun _ _ _ hh h => h.of_heap hh) own started (by kernel_rfl) Tryz.func4
    (ChangeSpec.witness_shaped (enc := enc) (C := Tryz.checked) (os := os) (X := fun w _ => laidMetH Tryz.prog lay5 w) false (World.doorLaid Tryz.prog 4000 os) #[.agg #[.slice none 0 0, .string ⟨#[]⟩, .slice none 0 0, .slice none 0 0, .int .i64 0, .int .i64 0, .slice none 0 0, .slice none 0 0], .int .i64 0] 12 rfl (World.shaped_of_RefB (by kernel_rfl) (by kernel_rfl)) (by kernel_rfl) (by kernel_rfl) (by kernel_rfl) (door_met os _)) ?_
  intro W base args ds gs before hval0 hW hL hsh
  have hval : ∀ (j : Nat) t v, Tryz.f4.params[j]? = some t → args[j]? = some v → Value.okWide Tryz.prog W .any base t v := hval0
  have hW' := hW
  obtain ⟨p, q, hA0, hV, rfl, _, _⟩ := hW
  have hA : DataW.TrodAll enc Tryz.prog W 0 (fun _ => true) true Tryz.f4.params.toList args.toList ds p := hA0
  rw [paramsLossesOf] at hA hval
  obtain ⟨v0, v1, d0, d1, p0, p1, rfl, rfl, rfl, h0, h1⟩ := trodAll_two hA
  obtain ⟨rfl, rfl⟩ := trodVars_none hV
  obtain ⟨a0, rfl, hz0⟩ := okWide_struct (fs := _) Tryz.underlying30 (hval 0 30 v0 rfl rfl)
  obtain ⟨r0, hr0, hq0⟩ := arg_agg (n := 7) (by kernel_rfl) hz0 h0
  obtain ⟨x0, e0, b0⟩ := pipe_ofrv (n := 0) hr0
  rw [← e0] at hq0
  obtain ⟨x1, rfl, rfl, rfl, _⟩ := open_int Tryz.underlying3 (hval 1 3 v1 rfl rfl) h1
  obtain ⟨I, hg, hb⟩ := gh_of hL hsh
  have hlaw := @law_LossesOf I x0 x1 b0
  refine (calls_of (v := .bool true) hlaw (fun g hgg => ⟨fun h => h, hg g hgg⟩) (fun g hgg => ⟨fun h => h, hb g hgg⟩) (.cons _ _ _ _ [] [] (.val _ _ hq0) (.cons _ _ _ _ [] [] (.val _ _ (.int _ _)) .nil)) (fun L w u hu => by cases hu; rfl)).mono fun e W' ⟨he, hbl⟩ => ?_
  exact ⟨_, he, post_true laidOut rfl Tryz.underlying4 rfl (by kernel_rfl) rfl hW' hbl⟩

theorem z1LossesOf : (Rows.fnExactLossesOfRow.inPlace == Tryz.prog.inPlace 4) = true := by kernel_rfl
theorem z2LossesOf : (Rows.fnExactLossesOfRow.unfollowed == Tryz.prog.unfollowed 4) = true := by kernel_rfl
theorem z3LossesOf : (Rows.fnExactLossesOfRow.recurses == Tryz.prog.recurses 4) = true := by kernel_rfl
theorem z4LossesOf : (Rows.fnExactLossesOfRow.named == Tryz.prog.varsNamed 4) = true := by kernel_rfl
theorem z8LossesOf : (Rows.fnExactLossesOfRow.plainKeys == Tryz.prog.plainKeys) = true := by rw [z8All]; rfl
theorem z11LossesOf : (Rows.fnExactLossesOfRow.lifted == Tryz.prog.liftsFinal) = true := by rw [z11All]; rfl
theorem z12LossesOf : Tryz.prog.funcNamed "loop.example/g00779/laws.FnExactLossesOf" = some 4 := by kernel_rfl
theorem closedLossesOf : joinedFacts Tryz.prog 4 Tryz.f4 Rows.fnExactLossesOfSpec Rows.fnExactLossesOfRow = true := by
  unfold joinedFacts
  simp only [Bool.and_eq_true]
  repeat' (apply And.intro)
  all_goals first
    | with_reducible exact laidOut
    | with_reducible exact z1LossesOf
    | with_reducible exact z2LossesOf
    | with_reducible exact z3LossesOf
    | with_reducible exact z4LossesOf
    | with_reducible exact z5All
    | with_reducible exact z6All
    | with_reducible exact z7All
    | with_reducible exact z8LossesOf
    | with_reducible exact z9All
    | with_reducible exact z10All
    | with_reducible exact z11LossesOf
    | kernel_rfl

theorem instLossesOf : Tryz.f4.isInstance Tryz.prog Rows.fnExactLossesOfRow.origin Rows.fnExactLossesOfRow.targs := of_decide_eq_true (by kernel_rfl)
theorem wrapLossesOf : Tryz.f4.isWrapper Tryz.prog Rows.fnExactLossesOfRow.wrapper Rows.fnExactLossesOfRow.mainSum := by
  unfold Func.isWrapper; first | (rw [if_pos (by decide +kernel)]; kernel_rfl) | (rw [if_neg (by decide +kernel)]; exact ⟨rfl, rfl⟩)
theorem rowLossesOf : Rows.FnExactLossesOfSaid :=
  OpenClaim.holds_of_wide 4 Tryz.f4 rfl rfl rfl rfl rfl rfl rfl ⟨rfl, rfl, rfl, rfl, rfl⟩ rfl rfl rfl rfl rfl z12LossesOf Tryz.func4 closedLossesOf instLossesOf wrapLossesOf
    (fun os started H enc _ => liftedLossesOf os started H enc)

theorem y1LossesOf : Rows.fnExactLossesOfRow.wfByText (OpenSpec.ofChange Rows.fnExactLossesOfSpec) = true := by kernel_rfl
theorem y4LossesOf : false = Rows.fnExactLossesOfRow.goesBy Tryz.prog := by kernel_rfl
theorem lossesOf_card : Rows.FnExactLossesOfCardSaid :=
  Claim7.holds_tied_plain_at .later [] [.data, .data, .data, .sentinel, .sentinel] true (true, "7fb74b68752ed7b2d68f9e56d830967882877d14b697e7be9412e3ef2715ee28") true
    rowLossesOf (fun _ h => by cases h) y1LossesOf (fun _ h => by cases h) fnExactLossesOf_row_tie rfl ⟨rfl, rfl⟩ y2All rfl
    (fun f fn hf hfn => by
      obtain rfl : f = 4 := Option.some.inj (z12LossesOf.symm.trans hf) |>.symm
      obtain rfl : fn = Tryz.f4 := (Option.some.inj (Tryz.func4.symm.trans hfn)).symm
      exact ⟨y3All, fun j t ht => by
        rw [paramsLossesOf] at ht
        match j, ht with
        | 0, ht =>
          obtain rfl : 30 = t := by simpa using ht
          exact (show Tryz.prog.wantsStandIn 30 = false by kernel_rfl)
        | 1, ht =>
          obtain rfl : 3 = t := by simpa using ht
          exact (show Tryz.prog.wantsStandIn 3 = false by kernel_rfl)
        | j + 2, ht => simp at ht⟩)
    y4LossesOf
end Go.Proofs.YtaohlnejdphldaaGreatDoor
end
