/- Vc: merged out of KVc, KWc. -/
import Derived.Test.YtmpcaeidpofoiaaGreatDoorFb
import Derived.Test.YtmpcaeidpofoiaaGreatDoorEb
import Derived.Test.YtmpcaeidpofoiaaGreatDoorTie
import Derived.Test.YtmpcaeidpofoiaaGreatDoorCards
import Derived.SevenTiedAt

/- 'laws.FnExactPeerWorks': for every input the call returns true, and each argument reads as it did. -/
section
set_option maxRecDepth 100000
set_option linter.unusedVariables false
set_option linter.unusedSectionVars false
set_option linter.unusedSimpArgs false
namespace Go.Proofs.YtmpcaeidpofoiaaGreatDoor
open Go.ChangeShapes Go.WideShapes Go.ChangeAt Go.RowKit Go.PW Go.KP

theorem paramsPeerWorks : Tryz.f7.params = #[22, 3] := rfl

theorem liftedPeerWorks (os : Os) (started : os.Started) (H : Type) (enc : TypeId × Value → H) :
    ReturnsInHanded {} Tryz.checked os 7 .any (fun w args => (Rows.fnExactPeerWorksSpec.pre enc Tryz.prog Tryz.f7 [] false w args ∧ laidMetH Tryz.prog lay5 w) ∧ sizedMet enc Tryz.prog Tryz.f7 (OpenSpec.ofChange Rows.fnExactPeerWorksSpec) false w args)
      (Rows.fnExactPeerWorksSpec.post enc Tryz.prog Tryz.f7 false true false false) := by
  refine lifted_shaped (C := Tryz.checked) (X := fun w _ => laidMetH Tryz.prog lay5 w) (fun _ _ _ hh h => h.of_heap hh) own started (by kernel_rfl) Tryz.func7
    (ChangeSpec.witness_shaped (enc := enc) (C := Tryz.checked) (os := os) (X := fun w _ => laidMetH Tryz.prog lay5 w) false (World.doorLaid Tryz.prog 4000 os) #[.slice none 0 0, .int .i64 0] 8 rfl (World.shaped_of_RefB (by kernel_rfl) (by kernel_rfl)) (by kernel_rfl) (by kernel_rfl) (by kernel_rfl) (door_met os _)) ?_
  intro W base args ds gs before hval0 hW hL hsh
  have hval : ∀ (j : Nat) t v, Tryz.f7.params[j]? = some t → args[j]? = some v → Value.okWide Tryz.prog W .any base t v := hval0
  have hW' := hW
  obtain ⟨p, q, hA0, hV, rfl, _, _⟩ := hW
  have hA : DataW.TrodAll enc Tryz.prog W 0 (fun _ => true) true Tryz.f7.params.toList args.toList ds p := hA0
  rw [paramsPeerWorks] at hA hval
  obtain ⟨v0, v1, d0, d1, p0, p1, rfl, rfl, rfl, h0, h1⟩ := trodAll_two hA
  obtain ⟨rfl, rfl⟩ := trodVars_none hV
  obtain ⟨now, rfl, rfl, rfl, _⟩ := open_int Tryz.underlying3 (hval 1 3 v1 rfl rfl) h1
  obtain ⟨a0, len, cap, rfl⟩ := okWide_slice Tryz.underlying22 (hval 0 22 v0 rfl rfl)
  obtain ⟨r, hr1, hr2⟩ := arg_cell (n := 4) (by kernel_rfl) (by kernel_rfl) rfl h0
  obtain ⟨l, rfl, hl, hx⟩ := peers_of_rv hr1
  obtain ⟨I, hg, hb⟩ := gh_of hL hsh
  have hmax : maxLen = 9223372036854775807 := rfl
  have hlaw := @law_PeerWorks I l now (by omega) (fun p hp => by have := hx p hp; omega)
  refine (calls_of (v := .bool true) hlaw (fun g hgg => ⟨fun h => h, hg g hgg⟩) (fun g hgg => ⟨fun h => h, hb g hgg⟩) (.cons _ _ _ _ [] [] (.val _ _ hr2) (.cons _ _ _ _ [] [] (.val _ _ (.int _ _)) .nil)) (fun L w u hu => by cases hu; rfl)).mono fun e W' ⟨he, hbl⟩ => ?_
  exact ⟨_, he, post_true laidOut rfl Tryz.underlying4 rfl (by kernel_rfl) rfl hW' hbl⟩

theorem rowPeerWorks : Rows.FnExactPeerWorksSaid :=
  OpenClaim.holds_of_wide 7 Tryz.f7 rfl rfl rfl rfl rfl rfl rfl ⟨rfl, rfl, rfl, rfl, rfl⟩ rfl rfl rfl rfl rfl (by kernel_rfl) Tryz.func7 (by kernel_rfl)
    (of_decide_eq_true (by kernel_rfl)) (by unfold Func.isWrapper; first | (rw [if_pos (by decide +kernel)]; kernel_rfl) | (rw [if_neg (by decide +kernel)]; exact ⟨rfl, rfl⟩))
    (fun os started H enc _ => liftedPeerWorks os started H enc)
end Go.Proofs.YtmpcaeidpofoiaaGreatDoor
end

/- THE CARD of 'laws.FnExactPeerWorks': for every input the call returns true, and each argument reads as it did; the listed variables of the library are tied to the program's text. -/
section
set_option maxRecDepth 100000
namespace Go.Proofs.YtmpcaeidpofoiaaGreatDoor
open Go

theorem peerWorks_card : Rows.FnExactPeerWorksCardSaid :=
  Claim7.holds_tied_plain_at .later [] [.data, .data, .data, .sentinel, .sentinel] true (true, "103f06081cd347f41dc7823dfdcf71e69e371868965f81f15176f72846038628") true
    rowPeerWorks (fun _ h => by cases h) (by kernel_rfl) (fun _ h => by cases h) fnExactPeerWorks_row_tie rfl ⟨rfl, rfl⟩ (by kernel_rfl) rfl
    (fun f fn hf hfn => by
      obtain rfl : f = 7 := Option.some.inj ((show Tryz.prog.funcNamed "loop.example/g00779/laws.FnExactPeerWorks" = some 7 by kernel_rfl).symm.trans hf) |>.symm
      obtain rfl : fn = Tryz.f7 := (Option.some.inj (Tryz.func7.symm.trans hfn)).symm
      exact ⟨by kernel_rfl, fun j t ht => by
        rw [paramsPeerWorks] at ht
        match j, ht with
        | 0, ht =>
          obtain rfl : 22 = t := by simpa using ht
          exact (show Tryz.prog.wantsStandIn 22 = false by kernel_rfl)
        | 1, ht =>
          obtain rfl : 3 = t := by simpa using ht
          exact (show Tryz.prog.wantsStandIn 3 = false by kernel_rfl)
        | j + 2, ht => simp at ht⟩)
    (by kernel_rfl)
end Go.Proofs.YtmpcaeidpofoiaaGreatDoor
end
