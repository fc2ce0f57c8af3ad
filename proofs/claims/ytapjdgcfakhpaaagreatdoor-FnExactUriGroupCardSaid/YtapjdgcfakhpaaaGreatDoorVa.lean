/- THE CARD OF 'laws.FnExactUriGroup': for every input the call returns true, and each argument reads as it did; the listed variables of the library are tied to the program's text. MADE BY PROGRAM (gen_row.py). -/
import Derived.Test.YtapjdgcfakhpaaaGreatDoorFb
import Derived.Test.YtapjdgcfakhpaaaGreatDoorFj
import Derived.Test.YtapjdgcfakhpaaaGreatDoorTie
import Derived.Test.YtapjdgcfakhpaaaGreatDoorCards
import Derived.SevenTiedAt
import Derived.ChangeMaps5
set_option linter.unusedVariables false
set_option maxRecDepth 100000
section
namespace Go.Proofs.YtapjdgcfakhpaaaGreatDoor
open Go Go.ChangeMaps Go.ChangeShapes Go.WideShapes Go.ChangeAt Go.RowKit Go.PW Go.KP
theorem a4c:Tryz.f5.params=#[26]:=rfl
theorem b0e (os:Os) (started:os.Started) (H:Type) (enc:TypeId×Value→H) :
 ReturnsInHanded {} Tryz.checked os 5 .any (fun w args=>(Rows.fnExactUriGroupSpec.pre enc Tryz.prog Tryz.f5 [] false w args∧laidMetH Tryz.prog c17 w)∧sizedMet enc Tryz.prog Tryz.f5 (OpenSpec.ofChange Rows.fnExactUriGroupSpec) false w args)
  (Rows.fnExactUriGroupSpec.post enc Tryz.prog Tryz.f5 false true false false):=by
 refine b1g (C:=Tryz.checked) (X:=fun w _=>laidMetH Tryz.prog c17 w) (fun _ _ _ hh h=>h.of_heap hh) own started (by kernel_rfl) Tryz.func5
  (ChangeSpec.witness_shaped (enc:=enc) (C:=Tryz.checked) (os:=os) (X:=fun w _=>laidMetH Tryz.prog c17 w) false (World.doorLaid Tryz.prog 4000 os) #[.agg #[.string ⟨#[]⟩,.slice none 0 0,.slice none 0 0]] 12 rfl (World.shaped_of_RefB (by kernel_rfl) (by kernel_rfl)) (by kernel_rfl) (by kernel_rfl) (by kernel_rfl) (c2t os _)) ?_
 intro W base args ds gs before hval0 hW hL hsh
 have hval:∀ (j:Nat) t v,Tryz.f5.params[j]?=some t→args[j]?=some v→Value.okWide Tryz.prog W .any base t v:=hval0
 have hW':=hW
 obtain ⟨p,q,hA0,hV,rfl,_,_⟩:=hW
 have hA:DataW.TrodAll enc Tryz.prog W 0 (fun _=>true) true Tryz.f5.params.toList args.toList ds p:=hA0
 rw [a4c] at hA hval
 obtain ⟨v0,d0,rfl,rfl,h0⟩:=trodAll_one hA
 obtain ⟨rfl,rfl⟩:=trodVars_none hV
 obtain ⟨a0,rfl,hz0⟩:=okWide_struct (fs:=_) Tryz.underlying26 (hval 0 26 v0 rfl rfl)
 obtain ⟨r0,hr0,hq0⟩:=arg_agg (n:=5) (by kernel_rfl) hz0 h0
 obtain ⟨x0,e0,b0⟩:=b4j (n:=0) hr0
 rw [← e0] at hq0
 obtain ⟨I,hg,hb⟩:=gh_of hL hsh
 have hlaw:=@b3d I x0 b0
 refine (c2y (v:=.bool true) hlaw (fun g hgg=>⟨fun h=>h,hg g hgg⟩) (fun g hgg=>⟨fun h=>h,hb g hgg⟩) (.cons _ _ _ _ [] [] (.val _ _ hq0) .nil) (fun L w u hu=>by cases hu;rfl)).mono fun e W' ⟨he,hbl⟩=>?_
 exact ⟨_,he,b9w b86 rfl Tryz.underlying4 rfl (by kernel_rfl) rfl hW' hbl⟩
theorem b6h:(Rows.fnExactUriGroupRow.inPlace == Tryz.prog.inPlace 5)=true:=by kernel_rfl
theorem b6g:(Rows.fnExactUriGroupRow.unfollowed == Tryz.prog.unfollowed 5)=true:=by kernel_rfl
theorem b6f:(Rows.fnExactUriGroupRow.recurses == Tryz.prog.recurses 5)=true:=by kernel_rfl
theorem b6e:(Rows.fnExactUriGroupRow.named == Tryz.prog.varsNamed 5)=true:=by kernel_rfl
theorem b6d:(Rows.fnExactUriGroupRow.plainKeys == Tryz.prog.plainKeys)=true:=by rw [z8All];rfl
theorem b3z:(Rows.fnExactUriGroupRow.lifted == Tryz.prog.liftsFinal)=true:=by rw [z11All];rfl
theorem z12UriGroup:Tryz.prog.funcNamed "loop.example/g00779/laws.FnExactUriGroup" = some 5:=by kernel_rfl
theorem b0t:joinedFacts Tryz.prog 5 Tryz.f5 Rows.fnExactUriGroupSpec Rows.fnExactUriGroupRow=true:=by
 unfold joinedFacts
 simp only [Bool.and_eq_true]
 repeat' (apply And.intro)
 all_goals first
  | with_reducible exact b86
  | with_reducible exact b6h
  | with_reducible exact b6g
  | with_reducible exact b6f
  | with_reducible exact b6e
  | with_reducible exact z5All
  | with_reducible exact z6All
  | with_reducible exact z7All
  | with_reducible exact b6d
  | with_reducible exact z9All
  | with_reducible exact z10All
  | with_reducible exact b3z
  | kernel_rfl
theorem b3l:Tryz.f5.isInstance Tryz.prog Rows.fnExactUriGroupRow.origin Rows.fnExactUriGroupRow.targs:=of_decide_eq_true (by kernel_rfl)
theorem b2j:Tryz.f5.isWrapper Tryz.prog Rows.fnExactUriGroupRow.wrapper Rows.fnExactUriGroupRow.mainSum:=by
 unfold Func.isWrapper;first | (rw [if_pos (by decide +kernel)];kernel_rfl) | (rw [if_neg (by decide +kernel)];exact ⟨rfl,rfl⟩)
theorem b4h:Rows.FnExactUriGroupSaid:=
 OpenClaim.holds_of_wide 5 Tryz.f5 rfl rfl rfl rfl rfl rfl rfl ⟨rfl,rfl,rfl,rfl,rfl⟩ rfl rfl rfl rfl rfl z12UriGroup Tryz.func5 b0t b3l b2j
  (fun os started H enc _=>b0e os started H enc)
theorem b6j:Rows.fnExactUriGroupRow.wfByText (OpenSpec.ofChange Rows.fnExactUriGroupSpec)=true:=by kernel_rfl
theorem b6i:false=Rows.fnExactUriGroupRow.goesBy Tryz.prog:=by kernel_rfl
theorem uriGroup_card:Rows.FnExactUriGroupCardSaid:=
 Claim7.holds_tied_plain_at .later [] [.data,.data,.data,.sentinel,.sentinel] true (true, "623716184fac11865da5f91f4b0ea5d8be7eed1129acb74824fb6633e5927957") true
  b4h (fun _ h=>by cases h) b6j (fun _ h=>by cases h) fnExactUriGroup_row_tie rfl ⟨rfl,rfl⟩ y2All rfl
  (fun f fn hf hfn=>by
   obtain rfl:f=5:=Option.some.inj (z12UriGroup.symm.trans hf) |>.symm
   obtain rfl:fn=Tryz.f5:=(Option.some.inj (Tryz.func5.symm.trans hfn)).symm
   exact ⟨y3All,fun j t ht=>by
    rw [a4c] at ht
    match j,ht with
    | 0,ht=>
     obtain rfl:26=t:=by simpa using ht
     exact (show Tryz.prog.wantsStandIn 26=false by kernel_rfl)
    | j+1,ht=>simp at ht⟩)
  b6i
end Go.Proofs.YtapjdgcfakhpaaaGreatDoor
end
