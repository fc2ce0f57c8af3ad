/- Vy: merged out of KVExactKeepPeers. -/
import Derived.Test.YtmilnihobbgopaaGreatDoorFb
import Derived.Test.YtmilnihobbgopaaGreatDoorCk
import Derived.Test.YtmilnihobbgopaaGreatDoorTie
import Derived.Test.YtmilnihobbgopaaGreatDoorCards
import Derived.SevenTiedAt
import Derived.ChangeMaps5

/- THE CARD OF 'laws.FnExactKeepPeers': for every input the call returns true, and each argument reads as it did; the listed variables of the library are tied to the program's text. MADE BY PROGRAM (gen_row.py). -/
section
set_option maxRecDepth 100000
set_option linter.unusedVariables false
namespace Go.Proofs.YtmilnihobbgopaaGreatDoor
open Go Go.ChangeShapes Go.WideShapes Go.ChangeAt Go.RowKit Go.PW Go.KP

theorem paramsKeepPeers : Tryz.f12.params = #[35, 74] := rfl

theorem liftedKeepPeers (os : Os) (started : os.Started) (H : Type) (enc : TypeId × Value → H) :
    ReturnsInHanded {} Tryz.checked os 12 .any (fun w args => (Rows.fnExactKeepPeersSpec.pre enc Tryz.prog Tryz.f12 [] false w args ∧ laidMetH Tryz.prog lay5 w) ∧ sizedMet enc Tryz.prog Tryz.f12 (OpenSpec.ofChange Rows.fnExactKeepPeersSpec) false w args)
      (Rows.fnExactKeepPeersSpec.post enc Tryz.prog Tryz.f12 false true false false) := by
  refine lifted_shaped (C := Tryz.checked) (X := fun w _ => laidMetH Tryz.prog lay5 w) (fun _ _ _ hh h => h.of_heap hh) own started (by kernel_rfl) Tryz.func12
    (ChangeSpec.witness_shaped (enc := enc) (C := Tryz.checked) (os := os) (X := fun w _ => laidMetH Tryz.prog lay5 w) false (World.doorLaid Tryz.prog 4000 os) #[.slice none 0 0, .agg #[.string ⟨#[]⟩, .int .i64 0, .slice none 0 0]] 12 rfl (World.shaped_of_RefB (by kernel_rfl) (by kernel_rfl)) (by kernel_rfl) (by kernel_rfl) (by kernel_rfl) (door_met os _)) ?_
  intro W base args ds gs before hval0 hW hL hsh
  have hval : ∀ (j : Nat) t v, Tryz.f12.params[j]? = some t → args[j]? = some v → Value.okWide Tryz.prog W .any base t v := hval0
  have hW' := hW
  obtain ⟨p, q, hA0, hV, rfl, _, _⟩ := hW
  have hA : DataW.TrodAll enc Tryz.prog W 0 (fun _ => true) true Tryz.f12.params.toList args.toList ds p := hA0
  rw [paramsKeepPeers] at hA hval
  obtain ⟨v0, v1, d0, d1, p0, p1, rfl, rfl, rfl, h0, h1⟩ := trodAll_two hA
  obtain ⟨rfl, rfl⟩ := trodVars_none hV
  obtain ⟨a0, len0, cap0, rfl⟩ := okWide_slice Tryz.underlying35 (hval 0 35 v0 rfl rfl)
  obtain ⟨r0, hr0, hq0⟩ := arg_cell (n := 4) (by kernel_rfl) (by kernel_rfl) rfl h0
  obtain ⟨x0, e0, b0⟩ := peers_ofrv (n := 0) hr0
  obtain rfl := (List.cons.inj e0).1
  obtain ⟨a1, rfl, hz1⟩ := okWide_struct (fs := _) Tryz.underlying74 (hval 1 74 v1 rfl rfl)
  obtain ⟨r1, hr1, hq1⟩ := arg_agg (n := 4) (by kernel_rfl) hz1 h1
  obtain ⟨x1, e1, b1⟩ := group_ofrv (n := 0) hr1
  rw [← e1] at hq1
  obtain ⟨I, hg, hb⟩ := gh_of hL hsh
  have hlaw := @law_KeepPeers I x0 x1 b0.1 b0.2 b1
  refine (calls_of (v := .bool true) hlaw (fun g hgg => ⟨fun h => h, hg g hgg⟩) (fun g hgg => ⟨fun h => h, hb g hgg⟩) (.cons _ _ _ _ [] [] (.val _ _ hq0) (.cons _ _ _ _ [] [] (.val _ _ hq1) .nil)) (fun L w u hu => by cases hu; rfl)).mono fun e W' ⟨he, hbl⟩ => ?_
  exact ⟨_, he, post_true laidOut rfl Tryz.underlying4 rfl (by kernel_rfl) rfl hW' hbl⟩

theorem z1KeepPeers : (Rows.fnExactKeepPeersRow.inPlace == Tryz.prog.inPlace 12) = true := by kernel_rfl
theorem z2KeepPeers : (Rows.fnExactKeepPeersRow.unfollowed == Tryz.prog.unfollowed 12) = true := by kernel_rfl
theorem z3KeepPeers : (Rows.fnExactKeepPeersRow.recurses == Tryz.prog.recurses 12) = true := by kernel_rfl
theorem z4KeepPeers : (Rows.fnExactKeepPeersRow.named == Tryz.prog.varsNamed 12) = true := by kernel_rfl
theorem z8KeepPeers : (Rows.fnExactKeepPeersRow.plainKeys == Tryz.prog.plainKeys) = true := by rw [z8All]; rfl
theorem z11KeepPeers : (Rows.fnExactKeepPeersRow.lifted == Tryz.prog.liftsFinal) = true := by rw [z11All]; rfl
theorem z12KeepPeers : Tryz.prog.funcNamed "loop.example/g00779/laws.FnExactKeepPeers" = some 12 := by kernel_rfl
theorem closedKeepPeers : joinedFacts Tryz.prog 12 Tryz.f12 Rows.fnExactKeepPeersSpec Rows.fnExactKeepPeersRow = true := by
  unfold joinedFacts
  simp only [Bool.and_eq_true]
  repeat' (apply And.intro)
  all_goals first
    | with_reducible exact laidOut
    | with_reducible exact z1KeepPeers
    | with_reducible exact z2KeepPeers
    | with_reducible exact z3KeepPeers
    | with_reducible exact z4KeepPeers
    | with_reducible exact z5All
    | with_reducible exact z6All
    | with_reducible exact z7All
    | with_reducible exact z8KeepPeers
    | with_reducible exact z9All
    | with_reducible exact z10All
    | with_reducible exact z11KeepPeers
    | kernel_rfl

theorem instKeepPeers : Tryz.f12.isInstance Tryz.prog Rows.fnExactKeepPeersRow.origin Rows.fnExactKeepPeersRow.targs := of_decide_eq_true (by kernel_rfl)
theorem wrapKeepPeers : Tryz.f12.isWrapper Tryz.prog Rows.fnExactKeepPeersRow.wrapper Rows.fnExactKeepPeersRow.mainSum := by
  unfold Func.isWrapper; first | (rw [if_pos (by decide +kernel)]; kernel_rfl) | (rw [if_neg (by decide +kernel)]; exact ⟨rfl, rfl⟩)
theorem rowKeepPeers : Rows.FnExactKeepPeersSaid :=
  OpenClaim.holds_of_wide 12 Tryz.f12 rfl rfl rfl rfl rfl rfl rfl ⟨rfl, rfl, rfl, rfl, rfl⟩ rfl rfl rfl rfl rfl z12KeepPeers Tryz.func12 closedKeepPeers instKeepPeers wrapKeepPeers
    (fun os started H enc _ => liftedKeepPeers os started H enc)

theorem y1KeepPeers : Rows.fnExactKeepPeersRow.wfByText (OpenSpec.ofChange Rows.fnExactKeepPeersSpec) = true := by kernel_rfl
theorem y4KeepPeers : false = Rows.fnExactKeepPeersRow.goesBy Tryz.prog := by kernel_rfl
theorem keepPeers_card : Rows.FnExactKeepPeersCardSaid :=
  Claim7.holds_tied_plain_at .later [] [.data, .data, .data, .sentinel, .sentinel] true (true, "9e1acf34d2e11551000dc3c64ac39e34b40ed56a9b6c26527531e028de39efab") true
    rowKeepPeers (fun _ h => by cases h) y1KeepPeers (fun _ h => by cases h) fnExactKeepPeers_row_tie rfl ⟨rfl, rfl⟩ y2All rfl
    (fun f fn hf hfn => by
      obtain rfl : f = 12 := Option.some.inj (z12KeepPeers.symm.trans hf) |>.symm
      obtain rfl : fn = Tryz.f12 := (Option.some.inj (Tryz.func12.symm.trans hfn)).symm
      exact ⟨y3All, fun j t ht => by
        rw [paramsKeepPeers] at ht
        match j, ht with
        | 0, ht =>
          obtain rfl : 35 = t := by simpa using ht
          exact (show Tryz.prog.wantsStandIn 35 = false by kernel_rfl)
        | 1, ht =>
          obtain rfl : 74 = t := by simpa using ht
          exact (show Tryz.prog.wantsStandIn 74 = false by kernel_rfl)
        | j + 2, ht => simp at ht⟩)
    y4KeepPeers
end Go.Proofs.YtmilnihobbgopaaGreatDoor
end
