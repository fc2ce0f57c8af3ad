/- Vx: merged out of KVExactPeersOf. -/
import Derived.Test.YtmilnihobbgopaaGreatDoorFb
import Derived.Test.YtmilnihobbgopaaGreatDoorCk
import Derived.Test.YtmilnihobbgopaaGreatDoorTie
import Derived.Test.YtmilnihobbgopaaGreatDoorCards
import Derived.SevenTiedAt
import Derived.ChangeMaps5

/- THE CARD OF 'laws.FnExactPeersOf': for every input the call returns true, and each argument reads as it did; the listed variables of the library are tied to the program's text. MADE BY PROGRAM (gen_row.py). -/
section
set_option maxRecDepth 100000
set_option linter.unusedVariables false
namespace Go.Proofs.YtmilnihobbgopaaGreatDoor
open Go Go.ChangeShapes Go.WideShapes Go.ChangeAt Go.RowKit Go.PW Go.KP

theorem paramsPeersOf : Tryz.f10.params = #[74] := rfl

theorem liftedPeersOf (os : Os) (started : os.Started) (H : Type) (enc : TypeId × Value → H) :
    ReturnsInHanded {} Tryz.checked os 10 .any (fun w args => (Rows.fnExactPeersOfSpec.pre enc Tryz.prog Tryz.f10 [] false w args ∧ laidMetH Tryz.prog lay5 w) ∧ sizedMet enc Tryz.prog Tryz.f10 (OpenSpec.ofChange Rows.fnExactPeersOfSpec) false w args)
      (Rows.fnExactPeersOfSpec.post enc Tryz.prog Tryz.f10 false true false false) := by
  refine lifted_shaped (C := Tryz.checked) (X := fun w _ => laidMetH Tryz.prog lay5 w) (fun _ _ _ hh h => h.of_heap hh) own started (by kernel_rfl) Tryz.func10
    (ChangeSpec.witness_shaped (enc := enc) (C := Tryz.checked) (os := os) (X := fun w _ => laidMetH Tryz.prog lay5 w) false (World.doorLaid Tryz.prog 4000 os) #[.agg #[.string ⟨#[]⟩, .int .i64 0, .slice none 0 0]] 12 rfl (World.shaped_of_RefB (by kernel_rfl) (by kernel_rfl)) (by kernel_rfl) (by kernel_rfl) (by kernel_rfl) (door_met os _)) ?_
  intro W base args ds gs before hval0 hW hL hsh
  have hval : ∀ (j : Nat) t v, Tryz.f10.params[j]? = some t → args[j]? = some v → Value.okWide Tryz.prog W .any base t v := hval0
  have hW' := hW
  obtain ⟨p, q, hA0, hV, rfl, _, _⟩ := hW
  have hA : DataW.TrodAll enc Tryz.prog W 0 (fun _ => true) true Tryz.f10.params.toList args.toList ds p := hA0
  rw [paramsPeersOf] at hA hval
  obtain ⟨v0, d0, rfl, rfl, h0⟩ := trodAll_one hA
  obtain ⟨rfl, rfl⟩ := trodVars_none hV
  obtain ⟨a0, rfl, hz0⟩ := okWide_struct (fs := _) Tryz.underlying74 (hval 0 74 v0 rfl rfl)
  obtain ⟨r0, hr0, hq0⟩ := arg_agg (n := 4) (by kernel_rfl) hz0 h0
  obtain ⟨x0, e0, b0⟩ := group_ofrv (n := 0) hr0
  rw [← e0] at hq0
  obtain ⟨I, hg, hb⟩ := gh_of hL hsh
  have hlaw := @law_PeersOf I x0 b0
  refine (calls_of (v := .bool true) hlaw (fun g hgg => ⟨fun h => h, hg g hgg⟩) (fun g hgg => ⟨fun h => h, hb g hgg⟩) (.cons _ _ _ _ [] [] (.val _ _ hq0) .nil) (fun L w u hu => by cases hu; rfl)).mono fun e W' ⟨he, hbl⟩ => ?_
  exact ⟨_, he, post_true laidOut rfl Tryz.underlying4 rfl (by kernel_rfl) rfl hW' hbl⟩

theorem z1PeersOf : (Rows.fnExactPeersOfRow.inPlace == Tryz.prog.inPlace 10) = true := by kernel_rfl
theorem z2PeersOf : (Rows.fnExactPeersOfRow.unfollowed == Tryz.prog.unfollowed 10) = true := by kernel_rfl
theorem z3PeersOf : (Rows.fnExactPeersOfRow.recurses == Tryz.prog.recurses 10) = true := by kernel_rfl
theorem z4PeersOf : (Rows.fnExactPeersOfRow.named == Tryz.prog.varsNamed 10) = true := by kernel_rfl
theorem z8PeersOf : (Rows.fnExactPeersOfRow.plainKeys == Tryz.prog.plainKeys) = true := by rw [z8All]; rfl
theorem z11PeersOf : (Rows.fnExactPeersOfRow.lifted == Tryz.prog.liftsFinal) = true := by rw [z11All]; rfl
theorem z12PeersOf : Tryz.prog.funcNamed "loop.example/g00779/laws.FnExactPeersOf" = some 10 := by kernel_rfl
theorem closedPeersOf : joinedFacts Tryz.prog 10 Tryz.f10 Rows.fnExactPeersOfSpec Rows.fnExactPeersOfRow = true := by
  unfold joinedFacts
  simp only [Bool.and_eq_true]
  repeat' (apply And.intro)
  all_goals first
    | with_reducible exact laidOut
    | with_reducible exact z1PeersOf
    | with_reducible exact z2PeersOf
    | with_reducible exact z3PeersOf
    | with_reducible exact z4PeersOf
    | with_reducible exact z5All
    | with_reducible exact z6All
    | with_reducible exact z7All
    | with_reducible exact z8PeersOf
    | with_reducible exact z9All
    | with_reducible exact z10All
    | with_reducible exact z11PeersOf
    | kernel_rfl

theorem instPeersOf : Tryz.f10.isInstance Tryz.prog Rows.fnExactPeersOfRow.origin Rows.fnExactPeersOfRow.targs := of_decide_eq_true (by kernel_rfl)
theorem wrapPeersOf : Tryz.f10.isWrapper Tryz.prog Rows.fnExactPeersOfRow.wrapper Rows.fnExactPeersOfRow.mainSum := by
  unfold Func.isWrapper; first | (rw [if_pos (by decide +kernel)]; kernel_rfl) | (rw [if_neg (by decide +kernel)]; exact ⟨rfl, rfl⟩)
theorem rowPeersOf : Rows.FnExactPeersOfSaid :=
  OpenClaim.holds_of_wide 10 Tryz.f10 rfl rfl rfl rfl rfl rfl rfl ⟨rfl, rfl, rfl, rfl, rfl⟩ rfl rfl rfl rfl rfl z12PeersOf Tryz.func10 closedPeersOf instPeersOf wrapPeersOf
    (fun os started H enc _ => liftedPeersOf os started H enc)

theorem y1PeersOf : Rows.fnExactPeersOfRow.wfByText (OpenSpec.ofChange Rows.fnExactPeersOfSpec) = true := by kernel_rfl
theorem y4PeersOf : false = Rows.fnExactPeersOfRow.goesBy Tryz.prog := by kernel_rfl
theorem peersOf_card : Rows.FnExactPeersOfCardSaid :=
  Claim7.holds_tied_plain_at .later [] [.data, .data, .data, .sentinel, .sentinel] true (true, "9e1acf34d2e11551000dc3c64ac39e34b40ed56a9b6c26527531e028de39efab") true
    rowPeersOf (fun _ h => by cases h) y1PeersOf (fun _ h => by cases h) fnExactPeersOf_row_tie rfl ⟨rfl, rfl⟩ y2All rfl
    (fun f fn hf hfn => by
      obtain rfl : f = 10 := Option.some.inj (z12PeersOf.symm.trans hf) |>.symm
      obtain rfl : fn = Tryz.f10 := (Option.some.inj (Tryz.func10.symm.trans hfn)).symm
      exact ⟨y3All, fun j t ht => by
        rw [paramsPeersOf] at ht
        match j, ht with
        | 0, ht =>
          obtain rfl : 74 = t := by simpa using ht
          exact (show Tryz.prog.wantsStandIn 74 = false by kernel_rfl)
        | j + 1, ht => simp at ht⟩)
    y4PeersOf
end Go.Proofs.YtmilnihobbgopaaGreatDoor
end
