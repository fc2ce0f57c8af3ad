/- Va: merged out of KVExactNeverAgain. -/
import Derived.Test.YtaohlnejdphldaaGreatDoorFb
import Derived.Test.YtaohlnejdphldaaGreatDoorEp
import Derived.Test.YtaohlnejdphldaaGreatDoorTie
import Derived.Test.YtaohlnejdphldaaGreatDoorCards
import Derived.SevenTiedAt
import Derived.ChangeMaps5

/- THE CARD OF 'laws.FnExactNeverAgain': for every input the call returns true, and each argument reads as it did; the listed variables of the library are tied to the program's text. MADE BY PROGRAM (gen_row.py). -/
section
set_option maxRecDepth 100000
set_option linter.unusedVariables false
namespace Go.Proofs.YtaohlnejdphldaaGreatDoor
open Go Go.ChangeMaps Go.ChangeShapes Go.WideShapes Go.ChangeAt Go.RowKit Go.PW Go.KP

theorem paramsNeverAgain : Tryz.f8.params = #[30] := rfl

theorem liftedNeverAgain (os : Os) (started : os.Started) (H : Type) (enc : TypeId × Value → H) :
    ReturnsInHanded {} Tryz.checked os 8 .any (fun w args => (Rows.fnExactNeverAgainSpec.pre enc Tryz.prog Tryz.f8 [] false w args ∧ laidMetH Tryz.prog lay5 w) ∧ sizedMet enc Tryz.prog Tryz.f8 (OpenSpec.ofChange Rows.fnExactNeverAgainSpec) false w args)
      (Rows.fnExactNeverAgainSpec.post enc Tryz.prog Tryz.f8 false true false false) := by
  refine lifted_shaped (C := Tryz.checked) (X := fun w _ => laidMetH Tryz.prog lay5 w) (fun _ _ _ hh h => h.of_heap hh) own started (by kernel_rfl) Tryz.func8
    (ChangeSpec.witness_shaped (enc := enc) (C := Tryz.checked) (os := os) (X := fun w _ => laidMetH Tryz.prog lay5 w) false (World.doorLaid Tryz.prog 4000 os) #[.agg #[.slice none 0 0, .string ⟨#[]⟩, .slice none 0 0, .slice none 0 0, .int .i64 0, .int .i64 0, .slice none 0 0, .slice none 0 0]] 12 rfl (World.shaped_of_RefB (by kernel_rfl) (by kernel_rfl)) (by kernel_rfl) (by kernel_rfl) (by kernel_rfl) (door_met os _)) ?_
  intro W base args ds gs before hval0 hW hL hsh
  have hval : ∀ (j : Nat) t v, Tryz.f8.params[j]? = some t → args[j]? = some v → Value.okWide Tryz.prog W .any base t v := hval0
  have hW' := hW
  obtain ⟨p, q, hA0, hV, rfl, _, _⟩ := hW
  have hA : DataW.TrodAll enc Tryz.prog W 0 (fun _ => true) true Tryz.f8.params.toList args.toList ds p := hA0
  rw [paramsNeverAgain] at hA hval
  obtain ⟨v0, d0, rfl, rfl, h0⟩ := trodAll_one hA
  obtain ⟨rfl, rfl⟩ := trodVars_none hV
  obtain ⟨a0, rfl, hz0⟩ := okWide_struct (fs := _) Tryz.underlying30 (hval 0 30 v0 rfl rfl)
  obtain ⟨r0, hr0, hq0⟩ := arg_agg (n := 7) (by kernel_rfl) hz0 h0
  obtain ⟨x0, e0, b0⟩ := pipe_ofrv (n := 0) hr0
  rw [← e0] at hq0
  obtain ⟨I, hg, hb⟩ := gh_of hL hsh
  have hlaw := @law_NeverAgain I x0 b0
  refine (calls_of (v := .bool true) hlaw (fun g hgg => ⟨fun h => h, hg g hgg⟩) (fun g hgg => ⟨fun h => h, hb g hgg⟩) (.cons _ _ _ _ [] [] (.val _ _ hq0) .nil) (fun L w u hu => by cases hu; rfl)).mono fun e W' ⟨he, hbl⟩ => ?_
  exact ⟨_, he, post_true laidOut rfl Tryz.underlying4 rfl (by kernel_rfl) rfl hW' hbl⟩

theorem z1NeverAgain : (Rows.fnExactNeverAgainRow.inPlace == Tryz.prog.inPlace 8) = true := by kernel_rfl
theorem z2NeverAgain : (Rows.fnExactNeverAgainRow.unfollowed == Tryz.prog.unfollowed 8) = true := by kernel_rfl
theorem z3NeverAgain : (Rows.fnExactNeverAgainRow.recurses == Tryz.prog.recurses 8) = true := by kernel_rfl
theorem z4NeverAgain : (Rows.fnExactNeverAgainRow.named == Tryz.prog.varsNamed 8) = true := by kernel_rfl
theorem z8NeverAgain : (Rows.fnExactNeverAgainRow.plainKeys == Tryz.prog.plainKeys) = true := by rw [z8All]; rfl
theorem z11NeverAgain : (Rows.fnExactNeverAgainRow.lifted == Tryz.prog.liftsFinal) = true := by rw [z11All]; rfl
theorem z12NeverAgain : Tryz.prog.funcNamed "loop.example/g00779/laws.FnExactNeverAgain" = some 8 := by kernel_rfl
theorem closedNeverAgain : joinedFacts Tryz.prog 8 Tryz.f8 Rows.fnExactNeverAgainSpec Rows.fnExactNeverAgainRow = true := by
  unfold joinedFacts
  simp only [Bool.and_eq_true]
  repeat' (apply And.intro)
  all_goals first
    | with_reducible exact laidOut
    | with_reducible exact z1NeverAgain
    | with_reducible exact z2NeverAgain
    | with_reducible exact z3NeverAgain
    | with_reducible exact z4NeverAgain
    | with_reducible exact z5All
    | with_reducible exact z6All
    | with_reducible exact z7All
    | with_reducible exact z8NeverAgain
    | with_reducible exact z9All
    | with_reducible exact z10All
    | with_reducible exact z11NeverAgain
    | kernel_rfl

theorem instNeverAgain : Tryz.f8.isInstance Tryz.prog Rows.fnExactNeverAgainRow.origin Rows.fnExactNeverAgainRow.targs := of_decide_eq_true (by kernel_rfl)
theorem wrapNeverAgain : Tryz.f8.isWrapper Tryz.prog Rows.fnExactNeverAgainRow.wrapper Rows.fnExactNeverAgainRow.mainSum := by
  unfold Func.isWrapper; first | (rw [if_pos (by decide +kernel)]; kernel_rfl) | (rw [if_neg (by decide +kernel)]; exact ⟨rfl, rfl⟩)
theorem rowNeverAgain : Rows.FnExactNeverAgainSaid :=
  OpenClaim.holds_of_wide 8 Tryz.f8 rfl rfl rfl rfl rfl rfl rfl ⟨rfl, rfl, rfl, rfl, rfl⟩ rfl rfl rfl rfl rfl z12NeverAgain Tryz.func8 closedNeverAgain instNeverAgain wrapNeverAgain
    (fun os started H enc _ => liftedNeverAgain os started H enc)

theorem y1NeverAgain : Rows.fnExactNeverAgainRow.wfByText (OpenSpec.ofChange Rows.fnExactNeverAgainSpec) = true := by kernel_rfl
theorem y4NeverAgain : false = Rows.fnExactNeverAgainRow.goesBy Tryz.prog := by kernel_rfl
theorem neverAgain_card : Rows.FnExactNeverAgainCardSaid :=
  Claim7.holds_tied_plain_at .later [] [.data, .data, .data, .sentinel, .sentinel] true (true, "7fb74b68752ed7b2d68f9e56d830967882877d14b697e7be9412e3ef2715ee28") true
    rowNeverAgain (fun _ h => by cases h) y1NeverAgain (fun _ h => by cases h) fnExactNeverAgain_row_tie rfl ⟨rfl, rfl⟩ y2All rfl
    (fun f fn hf hfn => by
      obtain rfl : f = 8 := Option.some.inj (z12NeverAgain.symm.trans hf) |>.symm
      obtain rfl : fn = Tryz.f8 := (Option.some.inj (Tryz.func8.symm.trans hfn)).symm
      exact ⟨y3All, fun j t ht => by
        rw [paramsNeverAgain] at ht
        match j, ht with
        | 0, ht =>
          obtain rfl : 30 = t := by simpa using ht
          exact (show Tryz.prog.wantsStandIn 30 = false by kernel_rfl)
        | j + 1, ht => simp at ht⟩)
    y4NeverAgain
end Go.Proofs.YtaohlnejdphldaaGreatDoor
end
