/- Va: merged out of KVExactDueAt. -/
import Derived.Test.YtaohlnejdphldaaGreatDoorFb
import Derived.Test.YtaohlnejdphldaaGreatDoorEh
import Derived.Test.YtaohlnejdphldaaGreatDoorTie
import Derived.Test.YtaohlnejdphldaaGreatDoorCards
import Derived.SevenTiedAt
import Derived.ChangeMaps5

/- THE CARD OF 'laws.FnExactDueAt': for every input the call returns true, and each argument reads as it did; the listed variables of the library are tied to the program's text. MADE BY PROGRAM (gen_row.py). -/
section
set_option maxRecDepth 100000
set_option linter.unusedVariables false
namespace Go.Proofs.YtaohlnejdphldaaGreatDoor
open Go Go.ChangeMaps Go.ChangeShapes Go.WideShapes Go.ChangeAt Go.RowKit Go.PW Go.KP

theorem paramsDueAt : Tryz.f5.params = #[30, 9] := rfl

theorem liftedDueAt (os : Os) (started : os.Started) (H : Type) (enc : TypeId × Value → H) :
    ReturnsInHanded {} Tryz.checked os 5 .any (fun w args => (Rows.fnExactDueAtSpec.pre enc Tryz.prog Tryz.f5 [] false w args ∧ laidMetH Tryz.prog lay5 w) ∧ sizedMet enc Tryz.prog Tryz.f5 (OpenSpec.ofChange Rows.fnExactDueAtSpec) false w args)
      (Rows.fnExactDueAtSpec.post enc Tryz.prog Tryz.f5 false true false false) := by
  refine lifted_shaped (C := Tryz.checked) (X := fun w _ => laidMetH Tryz.prog lay5 w) (fun _ _ _ hh h => h.of_heap hh) own started (by kernel_rfl) Tryz.func5
    (ChangeSpec.witness_shaped (enc := enc) (C := Tryz.checked) (os := os) (X := fun w _ => laidMetH Tryz.prog lay5 w) false (World.doorLaid Tryz.prog 4000 os) #[.agg #[.slice none 0 0, .string ⟨#[]⟩, .slice none 0 0, .slice none 0 0, .int .i64 0, .int .i64 0, .slice none 0 0, .slice none 0 0], .string ⟨#[]⟩] 12 rfl (World.shaped_of_RefB (by kernel_rfl) (by kernel_rfl)) (by kernel_rfl) (by kernel_rfl) (by kernel_rfl) (door_met os _)) ?_
  intro W base args ds gs before hval0 hW hL hsh
  have hval : ∀ (j : Nat) t v, Tryz.f5.params[j]? = some t → args[j]? = some v → Value.okWide Tryz.prog W .any base t v := hval0
  have hW' := hW
  obtain ⟨p, q, hA0, hV, rfl, _, _⟩ := hW
  have hA : DataW.TrodAll enc Tryz.prog W 0 (fun _ => true) true Tryz.f5.params.toList args.toList ds p := hA0
  rw [paramsDueAt] at hA hval
  obtain ⟨v0, v1, d0, d1, p0, p1, rfl, rfl, rfl, h0, h1⟩ := trodAll_two hA
  obtain ⟨rfl, rfl⟩ := trodVars_none hV
  obtain ⟨a0, rfl, hz0⟩ := okWide_struct (fs := _) Tryz.underlying30 (hval 0 30 v0 rfl rfl)
  obtain ⟨r0, hr0, hq0⟩ := arg_agg (n := 7) (by kernel_rfl) hz0 h0
  obtain ⟨x0, e0, b0⟩ := pipe_ofrv (n := 0) hr0
  rw [← e0] at hq0
  obtain ⟨y1, rfl, rfl, rfl, hl1⟩ := open_string Tryz.underlying9 (hval 1 9 v1 rfl rfl) h1
  obtain ⟨x1, hx1⟩ : ∃ x : Tx, y1 = bs x := ⟨_, (bs_eta y1).symm⟩
  subst hx1
  have b1 : x1.length ≤ maxLen := by rw [bs_size] at hl1; exact hl1
  obtain ⟨I, hg, hb⟩ := gh_of hL hsh
  have hlaw := @law_DueAt I x0 x1 b0 b1
  refine (calls_of (v := .bool true) hlaw (fun g hgg => ⟨fun h => h, hg g hgg⟩) (fun g hgg => ⟨fun h => h, hb g hgg⟩) (.cons _ _ _ _ [] [] (.val _ _ hq0) (.cons _ _ _ _ [] [] (.val _ _ (.str _)) .nil)) (fun L w u hu => by cases hu; rfl)).mono fun e W' ⟨he, hbl⟩ => ?_
  exact ⟨_, he, post_true laidOut rfl Tryz.underlying4 rfl (by kernel_rfl) rfl hW' hbl⟩

theorem z1DueAt : (Rows.fnExactDueAtRow.inPlace == Tryz.prog.inPlace 5) = true := by kernel_rfl
theorem z2DueAt : (Rows.fnExactDueAtRow.unfollowed == Tryz.prog.unfollowed 5) = true := by kernel_rfl
theorem z3DueAt : (Rows.fnExactDueAtRow.recurses == Tryz.prog.recurses 5) = true := by kernel_rfl
theorem z4DueAt : (Rows.fnExactDueAtRow.named == Tryz.prog.varsNamed 5) = true := by kernel_rfl
theorem z8DueAt : (Rows.fnExactDueAtRow.plainKeys == Tryz.prog.plainKeys) = true := by rw [z8All]; rfl
theorem z11DueAt : (Rows.fnExactDueAtRow.lifted == Tryz.prog.liftsFinal) = true := by rw [z11All]; rfl
theorem z12DueAt : Tryz.prog.funcNamed "loop.example/g00779/laws.FnExactDueAt" = some 5 := by kernel_rfl
theorem closedDueAt : joinedFacts Tryz.prog 5 Tryz.f5 Rows.fnExactDueAtSpec Rows.fnExactDueAtRow = true := by
  unfold joinedFacts
  simp only [Bool.and_eq_true]
  repeat' (apply And.intro)
  all_goals first
    | with_reducible exact laidOut
    | with_reducible exact z1DueAt
    | with_reducible exact z2DueAt
    | with_reducible exact z3DueAt
    | with_reducible exact z4DueAt
    | with_reducible exact z5All
    | with_reducible exact z6All
    | with_reducible exact z7All
    | with_reducible exact z8DueAt
    | with_reducible exact z9All
    | with_reducible exact z10All
    | with_reducible exact z11DueAt
    | kernel_rfl

theorem instDueAt : Tryz.f5.isInstance Tryz.prog Rows.fnExactDueAtRow.origin Rows.fnExactDueAtRow.targs := of_decide_eq_true (by kernel_rfl)
theorem wrapDueAt : Tryz.f5.isWrapper Tryz.prog Rows.fnExactDueAtRow.wrapper Rows.fnExactDueAtRow.mainSum := by
  unfold Func.isWrapper; first | (rw [if_pos (by decide +kernel)]; kernel_rfl) | (rw [if_neg (by decide +kernel)]; exact ⟨rfl, rfl⟩)
theorem rowDueAt : Rows.FnExactDueAtSaid :=
  OpenClaim.holds_of_wide 5 Tryz.f5 rfl rfl rfl rfl rfl rfl rfl ⟨rfl, rfl, rfl, rfl, rfl⟩ rfl rfl rfl rfl rfl z12DueAt Tryz.func5 closedDueAt instDueAt wrapDueAt
    (fun os started H enc _ => liftedDueAt os started H enc)

theorem y1DueAt : Rows.fnExactDueAtRow.wfByText (OpenSpec.ofChange Rows.fnExactDueAtSpec) = true := by kernel_rfl
theorem y4DueAt : false = Rows.fnExactDueAtRow.goesBy Tryz.prog := by kernel_rfl
theorem dueAt_card : Rows.FnExactDueAtCardSaid :=
  Claim7.holds_tied_plain_at .later [] [.data, .data, .data, .sentinel, .sentinel] true (true, "7fb74b68752ed7b2d68f9e56d830967882877d14b697e7be9412e3ef2715ee28") true
    rowDueAt (fun _ h => by cases h) y1DueAt (fun _ h => by cases h) fnExactDueAt_row_tie rfl ⟨rfl, rfl⟩ y2All rfl
    (fun f fn hf hfn => by
      obtain rfl : f = 5 := Option.some.inj (z12DueAt.symm.trans hf) |>.symm
      obtain rfl : fn = Tryz.f5 := (Option.some.inj (Tryz.func5.symm.trans hfn)).symm
      exact ⟨y3All, fun j t ht => by
        rw [paramsDueAt] at ht
        match j, ht with
        | 0, ht =>
          obtain rfl : 30 = t := by simpa using ht
          exact (show Tryz.prog.wantsStandIn 30 = false by kernel_rfl)
        | 1, ht =>
          obtain rfl : 9 = t := by simpa using ht
          exact (show Tryz.prog.wantsStandIn 9 = false by kernel_rfl)
        | j + 2, ht => simp at ht⟩)
    y4DueAt
end Go.Proofs.YtaohlnejdphldaaGreatDoor
end
