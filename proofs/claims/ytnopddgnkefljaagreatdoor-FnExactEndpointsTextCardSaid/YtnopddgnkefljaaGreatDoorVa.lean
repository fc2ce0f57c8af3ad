/- Va: merged out of KVExactEndpointsText. -/
import Derived.Test.YtnopddgnkefljaaGreatDoorFb
import Derived.Test.YtnopddgnkefljaaGreatDoorEo
import Derived.Test.YtnopddgnkefljaaGreatDoorTie
import Derived.Test.YtnopddgnkefljaaGreatDoorCards
import Derived.SevenTiedAt
import Derived.ChangeMaps5

/- THE CARD OF 'laws.FnExactEndpointsText': for every input the call returns true, and each argument reads as it did; the listed variables of the library are tied to the program's text. MADE BY PROGRAM (gen_row.py). -/
section
set_option maxRecDepth 100000
set_option linter.unusedVariables false
namespace Go.Proofs.YtnopddgnkefljaaGreatDoor
open Go Go.ChangeMaps Go.ChangeShapes Go.WideShapes Go.ChangeAt Go.RowKit Go.PW Go.KP

theorem paramsEndpointsText : Tryz.f4.params = #[29] := rfl

theorem liftedEndpointsText (os : Os) (started : os.Started) (H : Type) (enc : TypeId × Value → H) :
    ReturnsInHanded {} Tryz.checked os 4 .any (fun w args => (Rows.fnExactEndpointsTextSpec.pre enc Tryz.prog Tryz.f4 [] false w args ∧ laidMetH Tryz.prog lay5 w) ∧ sizedMet enc Tryz.prog Tryz.f4 (OpenSpec.ofChange Rows.fnExactEndpointsTextSpec) false w args)
      (Rows.fnExactEndpointsTextSpec.post enc Tryz.prog Tryz.f4 false true false false) := by
  refine lifted_shaped (C := Tryz.checked) (X := fun w _ => laidMetH Tryz.prog lay5 w) (fun _ _ _ hh h => h.of_heap hh) own started (by kernel_rfl) Tryz.func4
    (ChangeSpec.witness_shaped (enc := enc) (C := Tryz.checked) (os := os) (X := fun w _ => laidMetH Tryz.prog lay5 w) false (World.doorLaid Tryz.prog 4000 os) #[.slice none 0 0] 12 rfl (World.shaped_of_RefB (by kernel_rfl) (by kernel_rfl)) (by kernel_rfl) (by kernel_rfl) (by kernel_rfl) (door_met os _)) ?_
  intro W base args ds gs before hval0 hW hL hsh
  have hval : ∀ (j : Nat) t v, Tryz.f4.params[j]? = some t → args[j]? = some v → Value.okWide Tryz.prog W .any base t v := hval0
  have hW' := hW
  obtain ⟨p, q, hA0, hV, rfl, _, _⟩ := hW
  have hA : DataW.TrodAll enc Tryz.prog W 0 (fun _ => true) true Tryz.f4.params.toList args.toList ds p := hA0
  rw [paramsEndpointsText] at hA hval
  obtain ⟨v0, d0, rfl, rfl, h0⟩ := trodAll_one hA
  obtain ⟨rfl, rfl⟩ := trodVars_none hV
  obtain ⟨a0, len0, cap0, rfl⟩ := okWide_slice Tryz.underlying29 (hval 0 29 v0 rfl rfl)
  obtain ⟨r0, hr0, hq0⟩ := arg_cell (n := 5) (by kernel_rfl) (by kernel_rfl) rfl h0
  obtain ⟨x0, e0, b0⟩ := groups_ofrv (n := 0) hr0
  obtain rfl := (List.cons.inj e0).1
  obtain ⟨I, hg, hb⟩ := gh_of hL hsh
  have hlaw := @law_EndpointsText I x0 b0
  refine (calls_of (v := .bool true) hlaw (fun g hgg => ⟨fun h => h, hg g hgg⟩) (fun g hgg => ⟨fun h => h, hb g hgg⟩) (.cons _ _ _ _ [] [] (.val _ _ hq0) .nil) (fun L w u hu => by cases hu; rfl)).mono fun e W' ⟨he, hbl⟩ => ?_
  exact ⟨_, he, post_true laidOut rfl Tryz.underlying4 rfl (by kernel_rfl) rfl hW' hbl⟩

theorem z1EndpointsText : (Rows.fnExactEndpointsTextRow.inPlace == Tryz.prog.inPlace 4) = true := by kernel_rfl
theorem z2EndpointsText : (Rows.fnExactEndpointsTextRow.unfollowed == Tryz.prog.unfollowed 4) = true := by kernel_rfl
theorem z3EndpointsText : (Rows.fnExactEndpointsTextRow.recurses == Tryz.prog.recurses 4) = true := by kernel_rfl
theorem z4EndpointsText : (Rows.fnExactEndpointsTextRow.named == Tryz.prog.varsNamed 4) = true := by kernel_rfl
theorem z8EndpointsText : (Rows.fnExactEndpointsTextRow.plainKeys == Tryz.prog.plainKeys) = true := by rw [z8All]; rfl
theorem z11EndpointsText : (Rows.fnExactEndpointsTextRow.lifted == Tryz.prog.liftsFinal) = true := by rw [z11All]; rfl
theorem z12EndpointsText : Tryz.prog.funcNamed "loop.example/g00779/laws.FnExactEndpointsText" = some 4 := by kernel_rfl
theorem closedEndpointsText : joinedFacts Tryz.prog 4 Tryz.f4 Rows.fnExactEndpointsTextSpec Rows.fnExactEndpointsTextRow = true := by
  unfold joinedFacts
  simp only [Bool.and_eq_true]
  repeat' (apply And.intro)
  all_goals first
    | with_reducible exact laidOut
    | with_reducible exact z1EndpointsText
    | with_reducible exact z2EndpointsText
    | with_reducible exact z3EndpointsText
    | with_reducible exact z4EndpointsText
    | with_reducible exact z5All
    | with_reducible exact z6All
    | with_reducible exact z7All
    | with_reducible exact z8EndpointsText
    | with_reducible exact z9All
    | with_reducible exact z10All
    | with_reducible exact z11EndpointsText
    | kernel_rfl

theorem instEndpointsText : Tryz.f4.isInstance Tryz.prog Rows.fnExactEndpointsTextRow.origin Rows.fnExactEndpointsTextRow.targs := of_decide_eq_true (by kernel_rfl)
theorem wrapEndpointsText : Tryz.f4.isWrapper Tryz.prog Rows.fnExactEndpointsTextRow.wrapper Rows.fnExactEndpointsTextRow.mainSum := by
  unfold Func.isWrapper; first | (rw [if_pos (by decide +kernel)]; kernel_rfl) | (rw [if_neg (by decide +kernel)]; exact ⟨rfl, rfl⟩)
theorem rowEndpointsText : Rows.FnExactEndpointsTextSaid :=
  OpenClaim.holds_of_wide 4 Tryz.f4 rfl rfl rfl rfl rfl rfl rfl ⟨rfl, rfl, rfl, rfl, rfl⟩ rfl rfl rfl rfl rfl z12EndpointsText Tryz.func4 closedEndpointsText instEndpointsText wrapEndpointsText
    (fun os started H enc _ => liftedEndpointsText os started H enc)

theorem y1EndpointsText : Rows.fnExactEndpointsTextRow.wfByText (OpenSpec.ofChange Rows.fnExactEndpointsTextSpec) = true := by kernel_rfl
theorem y4EndpointsText : false = Rows.fnExactEndpointsTextRow.goesBy Tryz.prog := by kernel_rfl
theorem endpointsText_card : Rows.FnExactEndpointsTextCardSaid :=
  Claim7.holds_tied_plain_at .later [] [.data, .data, .data, .sentinel, .sentinel] true (true, "9a82fa75ed562d8c26fb36ce180077d7c6cd2abbad0cd8d94e3f41441645e045") true
    rowEndpointsText (fun _ h => by cases h) y1EndpointsText (fun _ h => by cases h) fnExactEndpointsText_row_tie rfl ⟨rfl, rfl⟩ y2All rfl
    (fun f fn hf hfn => by
      obtain rfl : f = 4 := Option.some.inj (z12EndpointsText.symm.trans hf) |>.symm
      obtain rfl : fn = Tryz.f4 := (Option.some.inj (Tryz.func4.symm.trans hfn)).symm
      exact ⟨y3All, fun j t ht => by
        rw [paramsEndpointsText] at ht
        match j, ht with
        | 0, ht =>
          obtain rfl : 29 = t := by simpa using ht
          exact (show Tryz.prog.wantsStandIn 29 = false by kernel_rfl)
        | j + 1, ht => simp at ht⟩)
    y4EndpointsText
end Go.Proofs.YtnopddgnkefljaaGreatDoor
end
