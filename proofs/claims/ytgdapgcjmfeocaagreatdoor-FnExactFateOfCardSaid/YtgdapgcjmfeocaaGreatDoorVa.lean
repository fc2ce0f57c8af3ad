/- Va: merged out of KVExactFateOf. -/
import Derived.Test.YtgdapgcjmfeocaaGreatDoorFb
import Derived.Test.YtgdapgcjmfeocaaGreatDoorEq
import Derived.Test.YtgdapgcjmfeocaaGreatDoorTie
import Derived.Test.YtgdapgcjmfeocaaGreatDoorCards
import Derived.SevenTiedAt
import Derived.ChangeMaps5
section
set_option maxRecDepth 100000
set_option linter.unusedVariables false
namespace Go.Proofs.YtgdapgcjmfeocaaGreatDoor
open Go Go.ChangeMaps Go.ChangeShapes Go.WideShapes Go.ChangeAt Go.RowKit Go.PW Go.KP
theorem paramsFateOf : Tryz.f3.params = #[30, 3] := rfl
theorem liftedFateOf (os : Os) (started : os.Started) (H : Type) (enc : TypeId × Value → H) :
    ReturnsInHanded {} Tryz.checked os 3 .any (fun w args => (Rows.fnExactFateOfSpec.pre enc Tryz.prog Tryz.f3 [] false w args ∧ laidMetH Tryz.prog lay5 w) ∧ sizedMet enc Tryz.prog Tryz.f3 (OpenSpec.ofChange Rows.fnExactFateOfSpec) false w args)
      (Rows.fnExactFateOfSpec.post enc Tryz.prog Tryz.f3 false true false false) := by
  refine lifted_shaped (C := Tryz.checked) (X := fun w _ => laidMetH Tryz.prog lay5 w) (fun _ _ _ hh h => h.of_heap hh) own started (by kernel_rfl) Tryz.func3
    (ChangeSpec.witness_shaped (enc := enc) (C := Tryz.checked) (os := os) (X := fun w _ => laidMetH Tryz.prog lay5 w) false (World.doorLaid Tryz.prog 4000 os) #[.agg #[.slice none 0 0, .string ⟨#[]⟩, .slice none 0 0, .slice none 0 0, .int .i64 0, .int .i64 0, .slice none 0 0, .slice none 0 0], .int .i64 0] 12 rfl (World.shaped_of_RefB (by kernel_rfl) (by kernel_rfl)) (by kernel_rfl) (by kernel_rfl) (by kernel_rfl) (door_met os _)) ?_
  intro W base args ds gs before hval0 hW hL hsh
  have hval : ∀ (j : Nat) t v, Tryz.f3.params[j]? = some t → args[j]? = some v → Value.okWide Tryz.prog W .any base t v := hval0
  have hW' := hW
  obtain ⟨p, q, hA0, hV, rfl, _, _⟩ := hW
  have hA : DataW.TrodAll enc Tryz.prog W 0 (fun _ => true) true Tryz.f3.params.toList args.toList ds p := hA0
  rw [paramsFateOf] at hA hval
  obtain ⟨v0, v1, d0, d1, p0, p1, rfl, rfl, rfl, h0, h1⟩ := trodAll_two hA
  obtain ⟨rfl, rfl⟩ := trodVars_none hV
  obtain ⟨a0, rfl, hz0⟩ := okWide_struct (fs := _) Tryz.underlying30 (hval 0 30 v0 rfl rfl)
  obtain ⟨r0, hr0, hq0⟩ := arg_agg (n := 7) (by kernel_rfl) hz0 h0
  obtain ⟨x0, e0, b0⟩ := pipe_ofrv (n := 0) hr0
  rw [← e0] at hq0
  obtain ⟨x1, rfl, rfl, rfl, _⟩ := open_int Tryz.underlying3 (hval 1 3 v1 rfl rfl) h1
  obtain ⟨I, hg, hb⟩ := gh_of hL hsh
  have hlaw := @law_FateOf I x0 x1 b0
  refine (calls_of (v := .bool true) hlaw (fun g hgg => ⟨fun h => h, hg g hgg⟩) (fun g hgg => ⟨fun h => h, hb g hgg⟩) (.cons _ _ _ _ [] [] (.val _ _ hq0) (.cons _ _ _ _ [] [] (.val _ _ (.int _ _)) .nil)) (fun L w u hu => by cases hu; rfl)).mono fun e W' ⟨he, hbl⟩ => ?_
  exact ⟨_, he, post_true laidOut rfl Tryz.underlying4 rfl (by kernel_rfl) rfl hW' hbl⟩
theorem z1FateOf : (Rows.fnExactFateOfRow.inPlace == Tryz.prog.inPlace 3) = true := by kernel_rfl
theorem z2FateOf : (Rows.fnExactFateOfRow.unfollowed == Tryz.prog.unfollowed 3) = true := by kernel_rfl
theorem z3FateOf : (Rows.fnExactFateOfRow.recurses == Tryz.prog.recurses 3) = true := by kernel_rfl
theorem z4FateOf : (Rows.fnExactFateOfRow.named == Tryz.prog.varsNamed 3) = true := by kernel_rfl
theorem z8FateOf : (Rows.fnExactFateOfRow.plainKeys == Tryz.prog.plainKeys) = true := by rw [z8All]; rfl
theorem z11FateOf : (Rows.fnExactFateOfRow.lifted == Tryz.prog.liftsFinal) = true := by rw [z11All]; rfl
theorem z12FateOf : Tryz.prog.funcNamed "loop.example/g00779/laws.FnExactFateOf" = some 3 := by kernel_rfl
theorem closedFateOf : joinedFacts Tryz.prog 3 Tryz.f3 Rows.fnExactFateOfSpec Rows.fnExactFateOfRow = true := by
  unfold joinedFacts
  simp only [Bool.and_eq_true]
  repeat' (apply And.intro)
  all_goals first
    | with_reducible exact laidOut
    | with_reducible exact z1FateOf
    | with_reducible exact z2FateOf
    | with_reducible exact z3FateOf
    | with_reducible exact z4FateOf
    | with_reducible exact z5All
    | with_reducible exact z6All
    | with_reducible exact z7All
    | with_reducible exact z8FateOf
    | with_reducible exact z9All
    | with_reducible exact z10All
    | with_reducible exact z11FateOf
    | kernel_rfl
theorem instFateOf : Tryz.f3.isInstance Tryz.prog Rows.fnExactFateOfRow.origin Rows.fnExactFateOfRow.targs := of_decide_eq_true (by kernel_rfl)
theorem wrapFateOf : Tryz.f3.isWrapper Tryz.prog Rows.fnExactFateOfRow.wrapper Rows.fnExactFateOfRow.mainSum := by
  unfold Func.isWrapper; first | (rw [if_pos (by decide +kernel)]; kernel_rfl) | (rw [if_neg (by decide +kernel)]; exact ⟨rfl, rfl⟩)
theorem rowFateOf : Rows.FnExactFateOfSaid :=
  OpenClaim.holds_of_wide 3 Tryz.f3 rfl rfl rfl rfl rfl rfl rfl ⟨rfl, rfl, rfl, rfl, rfl⟩ rfl rfl rfl rfl rfl z12FateOf Tryz.func3 closedFateOf instFateOf wrapFateOf
    (fun os started H enc _ => liftedFateOf os started H enc)
theorem y1FateOf : Rows.fnExactFateOfRow.wfByText (OpenSpec.ofChange Rows.fnExactFateOfSpec) = true := by kernel_rfl
theorem y4FateOf : false = Rows.fnExactFateOfRow.goesBy Tryz.prog := by kernel_rfl
theorem fateOf_card : Rows.FnExactFateOfCardSaid :=
  Claim7.holds_tied_plain_at .later [] [.data, .data, .data, .sentinel, .sentinel] true (true, "2e2573802ff5d0b2756901822aa9ff57152d18fe02fe994b4a45ed53894a6ecc") true
    rowFateOf (fun _ h => by cases h) y1FateOf (fun _ h => by cases h) fnExactFateOf_row_tie rfl ⟨rfl, rfl⟩ y2All rfl
    (fun f fn hf hfn => by
      obtain rfl : f = 3 := Option.some.inj (z12FateOf.symm.trans hf) |>.symm
      obtain rfl : fn = Tryz.f3 := (Option.some.inj (Tryz.func3.symm.trans hfn)).symm
      exact ⟨y3All, fun j t ht => by
        rw [paramsFateOf] at ht
        match j, ht with
        | 0, ht =>
          obtain rfl : 30 = t := by simpa using ht
          exact (show Tryz.prog.wantsStandIn 30 = false by kernel_rfl)
        | 1, ht =>
          obtain rfl : 3 = t := by simpa using ht
          exact (show Tryz.prog.wantsStandIn 3 = false by kernel_rfl)
        | j + 2, ht => simp at ht⟩)
    y4FateOf
end Go.Proofs.YtgdapgcjmfeocaaGreatDoor
end
