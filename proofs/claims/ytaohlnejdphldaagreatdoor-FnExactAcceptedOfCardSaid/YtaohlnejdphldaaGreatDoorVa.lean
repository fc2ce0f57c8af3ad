/- Va: merged out of KVExactAcceptedOf. -/
import Derived.Test.YtaohlnejdphldaaGreatDoorFb
import Derived.Test.YtaohlnejdphldaaGreatDoorEh
import Derived.Test.YtaohlnejdphldaaGreatDoorTie
import Derived.Test.YtaohlnejdphldaaGreatDoorCards
import Derived.SevenTiedAt
import Derived.ChangeMaps5

/- THE CARD OF 'laws.FnExactAcceptedOf': for every input the call returns true, and each argument reads as it did; the listed variables of the library are tied to the program's text. MADE BY PROGRAM (gen_row.py). -/
section
set_option maxRecDepth 100000
set_option linter.unusedVariables false
namespace Go.Proofs.YtaohlnejdphldaaGreatDoor
open Go Go.ChangeShapes Go.WideShapes Go.ChangeAt Go.RowKit Go.PW Go.KP

theorem paramsAcceptedOf : Tryz.f3.params = #[30, 3] := rfl

theorem liftedAcceptedOf (os : Os) (started : os.Started) (H : Type) (enc : TypeId × Value → H) :
    ReturnsInHanded {} Tryz.checked os 3 .any (fun w args => (Rows.fnExactAcceptedOfSpec.pre enc Tryz.prog Tryz.f3 [] false w args ∧ laidMetH Tryz.prog lay5 w) ∧ sizedMet enc Tryz.prog Tryz.f3 (OpenSpec.ofChange Rows.fnExactAcceptedOfSpec) false w args)
      (Rows.fnExactAcceptedOfSpec.post enc Tryz.prog Tryz.f3 false true false false) := by
  refine lifted_shaped (C := Tryz.checked) (X := fun w _ => laidMetH Tryz.prog lay5 w) (fun _ _ _ hh h => h.of_heap hh) own started (by kernel_rfl) Tryz.func3
    (ChangeSpec.witness_shaped (enc := enc) (C := Tryz.checked) (os := os) (X := fun w _ => laidMetH Tryz.prog lay5 w) false (World.doorLaid Tryz.prog 4000 os) #[.agg #[.slice none 0 0, .string ⟨#[]⟩, .slice none 0 0, .slice none 0 0, .int .i64 0, .int .i64 0, .slice none 0 0, .slice none 0 0], .int .i64 0] 12 rfl (World.shaped_of_RefB (by kernel_rfl) (by kernel_rfl)) (by kernel_rfl) (by kernel_rfl) (by kernel_rfl) (door_met os _)) ?_
  intro W base args ds gs before hval0 hW hL hsh
  have hval : ∀ (j : Nat) t v, Tryz.f3.params[j]? = some t → args[j]? = some v → Value.okWide Tryz.prog W .any base t v := hval0
  have hW' := hW
  obtain ⟨p, q, hA0, hV, rfl, _, _⟩ := hW
  have hA : DataW.TrodAll enc Tryz.prog W 0 (fun _ => true) true Tryz.f3.params.toList args.toList ds p := hA0
  rw [paramsAcceptedOf] at hA hval
  obtain ⟨v0, v1, d0, d1, p0, p1, rfl, rfl, rfl, h0, h1⟩ := trodAll_two hA
  obtain ⟨rfl, rfl⟩ := trodVars_none hV
  obtain ⟨a0, rfl, hz0⟩ := okWide_struct (fs := _) Tryz.underlying30 (hval 0 30 v0 rfl rfl)
  obtain ⟨r0, hr0, hq0⟩ := arg_agg (n := 7) (by kernel_rfl) hz0 h0
  obtain ⟨x0, e0, b0⟩ := pipe_ofrv (n := 0) hr0
  rw [← e0] at hq0
  obtain ⟨x1, rfl, rfl, rfl, _⟩ := open_int Tryz.underlying3 (hval 1 3 v1 rfl rfl) h1
  obtain ⟨I, hg, hb⟩ := gh_of hL hsh
  have hlaw := @law_AcceptedOf I x0 x1 b0
  refine (calls_of (v := .bool true) hlaw (fun g hgg => ⟨fun h => h, hg g hgg⟩) (fun g hgg => ⟨fun h => h, hb g hgg⟩) (.cons _ _ _ _ [] [] (.val _ _ hq0) (.cons _ _ _ _ [] [] (.val _ _ (.int _ _)) .nil)) (fun L w u hu => by cases hu; rfl)).mono fun e W' ⟨he, hbl⟩ => ?_
  exact ⟨_, he, post_true laidOut rfl Tryz.underlying4 rfl (by kernel_rfl) rfl hW' hbl⟩

theorem z1AcceptedOf : (Rows.fnExactAcceptedOfRow.inPlace == Tryz.prog.inPlace 3) = true := by kernel_rfl
theorem z2AcceptedOf : (Rows.fnExactAcceptedOfRow.unfollowed == Tryz.prog.unfollowed 3) = true := by kernel_rfl
theorem z3AcceptedOf : (Rows.fnExactAcceptedOfRow.recurses == Tryz.prog.recurses 3) = true := by kernel_rfl
theorem z4AcceptedOf : (Rows.fnExactAcceptedOfRow.named == Tryz.prog.varsNamed 3) = true := by kernel_rfl
theorem z8AcceptedOf : (Rows.fnExactAcceptedOfRow.plainKeys == Tryz.prog.plainKeys) = true := by rw [z8All]; rfl
theorem z11AcceptedOf : (Rows.fnExactAcceptedOfRow.lifted == Tryz.prog.liftsFinal) = true := by rw [z11All]; rfl
theorem z12AcceptedOf : Tryz.prog.funcNamed "loop.example/g00779/laws.FnExactAcceptedOf" = some 3 := by kernel_rfl
theorem closedAcceptedOf : joinedFacts Tryz.prog 3 Tryz.f3 Rows.fnExactAcceptedOfSpec Rows.fnExactAcceptedOfRow = true := by
  unfold joinedFacts
  simp only [Bool.and_eq_true]
  repeat' (apply And.intro)
  all_goals first
    | with_reducible exact laidOut
    | with_reducible exact z1AcceptedOf
    | with_reducible exact z2AcceptedOf
    | with_reducible exact z3AcceptedOf
    | with_reducible exact z4AcceptedOf
    | with_reducible exact z5All
    | with_reducible exact z6All
    | with_reducible exact z7All
    | with_reducible exact z8AcceptedOf
    | with_reducible exact z9All
    | with_reducible exact z10All
    | with_reducible exact z11AcceptedOf
    | kernel_rfl

theorem instAcceptedOf : Tryz.f3.isInstance Tryz.prog Rows.fnExactAcceptedOfRow.origin Rows.fnExactAcceptedOfRow.targs := of_decide_eq_true (by kernel_rfl)
theorem wrapAcceptedOf : Tryz.f3.isWrapper Tryz.prog Rows.fnExactAcceptedOfRow.wrapper Rows.fnExactAcceptedOfRow.mainSum := by
  unfold Func.isWrapper; first | (rw [if_pos (by decide +kernel)]; kernel_rfl) | (rw [if_neg (by decide +kernel)]; exact ⟨rfl, rfl⟩)
theorem rowAcceptedOf : Rows.FnExactAcceptedOfSaid :=
  OpenClaim.holds_of_wide 3 Tryz.f3 rfl rfl rfl rfl rfl rfl rfl ⟨rfl, rfl, rfl, rfl, rfl⟩ rfl rfl rfl rfl rfl z12AcceptedOf Tryz.func3 closedAcceptedOf instAcceptedOf wrapAcceptedOf
    (fun os started H enc _ => liftedAcceptedOf os started H enc)

theorem y1AcceptedOf : Rows.fnExactAcceptedOfRow.wfByText (OpenSpec.ofChange Rows.fnExactAcceptedOfSpec) = true := by kernel_rfl
theorem y4AcceptedOf : false = Rows.fnExactAcceptedOfRow.goesBy Tryz.prog := by kernel_rfl
theorem acceptedOf_card : Rows.FnExactAcceptedOfCardSaid :=
  Claim7.holds_tied_plain_at .later [] [.data, .data, .data, .sentinel, .sentinel] true (true, "7fb74b68752ed7b2d68f9e56d830967882877d14b697e7be9412e3ef2715ee28") true
    rowAcceptedOf (fun _ h => by cases h) y1AcceptedOf (fun _ h => by cases h) fnExactAcceptedOf_row_tie rfl ⟨rfl, rfl⟩ y2All rfl
    (fun f fn hf hfn => by
      obtain rfl : f = 3 := Option.some.inj (z12AcceptedOf.symm.trans hf) |>.symm
      obtain rfl : fn = Tryz.f3 := (Option.some.inj (Tryz.func3.symm.trans hfn)).symm
      exact ⟨y3All, fun j t ht => by
        rw [paramsAcceptedOf] at ht
        match j, ht with
        | 0, ht =>
          obtain rfl : 30 = t := by simpa using ht
          exact (show Tryz.prog.wantsStandIn 30 = false by kernel_rfl)
        | 1, ht =>
          obtain rfl : 3 = t := by simpa using ht
          exact (show Tryz.prog.wantsStandIn 3 = false by kernel_rfl)
        | j + 2, ht => simp at ht⟩)
    y4AcceptedOf
end Go.Proofs.YtaohlnejdphldaaGreatDoor
end
