/- THE CARD OF 'laws.FnExactChannelLines': for every input the call returns true, and each argument reads as it did; the listed variables of the library are tied to the program's text. MADE BY PROGRAM (gen_row.py). -/
import Derived.Test.YtapjdgcfakhpaaaGreatDoorFb
import Derived.Test.YtapjdgcfakhpaaaGreatDoorFi
import Derived.Test.YtapjdgcfakhpaaaGreatDoorTie
import Derived.Test.YtapjdgcfakhpaaaGreatDoorCards
import Derived.SevenTiedAt
import Derived.ChangeMaps5
set_option linter.unusedVariables false
set_option maxRecDepth 100000
section
namespace Go.Proofs.YtapjdgcfakhpaaaGreatDoor
open Go Go.ChangeMaps Go.ChangeShapes Go.WideShapes Go.ChangeAt Go.RowKit Go.PW Go.KP
theorem a5e:Tryz.f6.params=#[30]:=rfl
theorem b0e (os:Os) (started:os.Started) (H:Type) (enc:TypeId×Value→H) :
 ReturnsInHanded {} Tryz.checked os 6 .any (fun w args=>(Rows.fnExactChannelLinesSpec.pre enc Tryz.prog Tryz.f6 [] false w args∧laidMetH Tryz.prog d0k w)∧sizedMet enc Tryz.prog Tryz.f6 (OpenSpec.ofChange Rows.fnExactChannelLinesSpec) false w args)
  (Rows.fnExactChannelLinesSpec.post enc Tryz.prog Tryz.f6 false true false false):=by
 refine b7g (C:=Tryz.checked) (X:=fun w _=>laidMetH Tryz.prog d0k w) (fun _ _ _ hh h=>h.of_heap hh) own started (by kernel_rfl) Tryz.func6
  (ChangeSpec.witness_shaped (enc:=enc) (C:=Tryz.checked) (os:=os) (X:=fun w _=>laidMetH Tryz.prog d0k w) false (World.doorLaid Tryz.prog 4000 os) #[.agg #[.slice none 0 0,.string ⟨#[]⟩,.slice none 0 0,.slice none 0 0,.int .i64 0,.int .i64 0,.slice none 0 0,.slice none 0 0]] 12 rfl (World.shaped_of_RefB (by kernel_rfl) (by kernel_rfl)) (by kernel_rfl) (by kernel_rfl) (by kernel_rfl) (d1h os _)) ?_
 intro W base args ds gs before hval0 hW hL hsh
 have hval:∀ (j:Nat) t v,Tryz.f6.params[j]?=some t→args[j]?=some v→Value.okWide Tryz.prog W .any base t v:=hval0
 have hW':=hW
 obtain ⟨p,q,hA0,hV,rfl,_,_⟩:=hW
 have hA:DataW.TrodAll enc Tryz.prog W 0 (fun _=>true) true Tryz.f6.params.toList args.toList ds p:=hA0
 rw [a5e] at hA hval
 obtain ⟨v0,d0,rfl,rfl,h0⟩:=trodAll_one hA
 obtain ⟨rfl,rfl⟩:=trodVars_none hV
 obtain ⟨a0,rfl,hz0⟩:=okWide_struct (fs:=_) Tryz.underlying30 (hval 0 30 v0 rfl rfl)
 obtain ⟨r0,hr0,hq0⟩:=arg_agg (n:=7) (by kernel_rfl) hz0 h0
 obtain ⟨x0,e0,b0⟩:=c7c (n:=0) hr0
 rw [← e0] at hq0
 obtain ⟨I,hg,hb⟩:=gh_of hL hsh
 have hlaw:=@b2j I x0 b0
 refine (d1o (v:=.bool true) hlaw (fun g hgg=>⟨fun h=>h,hg g hgg⟩) (fun g hgg=>⟨fun h=>h,hb g hgg⟩) (.cons _ _ _ _ [] [] (.val _ _ hq0) .nil) (fun L w u hu=>by cases hu;rfl)).mono fun e W' ⟨he,hbl⟩=>?_
 exact ⟨_,he,c7b c6h rfl Tryz.underlying4 rfl (by kernel_rfl) rfl hW' hbl⟩
theorem b4p:(Rows.fnExactChannelLinesRow.inPlace == Tryz.prog.inPlace 6)=true:=by kernel_rfl
theorem b4o:(Rows.fnExactChannelLinesRow.unfollowed == Tryz.prog.unfollowed 6)=true:=by kernel_rfl
theorem b4n:(Rows.fnExactChannelLinesRow.recurses == Tryz.prog.recurses 6)=true:=by kernel_rfl
theorem b4m:(Rows.fnExactChannelLinesRow.named == Tryz.prog.varsNamed 6)=true:=by kernel_rfl
theorem b4l:(Rows.fnExactChannelLinesRow.plainKeys == Tryz.prog.plainKeys)=true:=by rw [z8All];rfl
theorem b3v:(Rows.fnExactChannelLinesRow.lifted == Tryz.prog.liftsFinal)=true:=by rw [z11All];rfl
theorem z12ChannelLines:Tryz.prog.funcNamed "loop.example/g00779/laws.FnExactChannelLines" = some 6:=by kernel_rfl
theorem b0s:joinedFacts Tryz.prog 6 Tryz.f6 Rows.fnExactChannelLinesSpec Rows.fnExactChannelLinesRow=true:=by
 unfold joinedFacts
 simp only [Bool.and_eq_true]
 repeat' (apply And.intro)
 all_goals first
  | with_reducible exact c6h
  | with_reducible exact b4p
  | with_reducible exact b4o
  | with_reducible exact b4n
  | with_reducible exact b4m
  | with_reducible exact z5All
  | with_reducible exact z6All
  | with_reducible exact z7All
  | with_reducible exact b4l
  | with_reducible exact z9All
  | with_reducible exact z10All
  | with_reducible exact b3v
  | kernel_rfl
theorem b2n:Tryz.f6.isInstance Tryz.prog Rows.fnExactChannelLinesRow.origin Rows.fnExactChannelLinesRow.targs:=of_decide_eq_true (by kernel_rfl)
theorem b11:Tryz.f6.isWrapper Tryz.prog Rows.fnExactChannelLinesRow.wrapper Rows.fnExactChannelLinesRow.mainSum:=by
 unfold Func.isWrapper;first | (rw [if_pos (by decide +kernel)];kernel_rfl) | (rw [if_neg (by decide +kernel)];exact ⟨rfl,rfl⟩)
theorem b3y:Rows.FnExactChannelLinesSaid:=
 OpenClaim.holds_of_wide 6 Tryz.f6 rfl rfl rfl rfl rfl rfl rfl ⟨rfl,rfl,rfl,rfl,rfl⟩ rfl rfl rfl rfl rfl z12ChannelLines Tryz.func6 b0s b2n b11
  (fun os started H enc _=>b0e os started H enc)
theorem b4r:Rows.fnExactChannelLinesRow.wfByText (OpenSpec.ofChange Rows.fnExactChannelLinesSpec)=true:=by kernel_rfl
theorem b4q:false=Rows.fnExactChannelLinesRow.goesBy Tryz.prog:=by kernel_rfl
theorem channelLines_card:Rows.FnExactChannelLinesCardSaid:=
 Claim7.holds_tied_plain_at .later [] [.data,.data,.data,.sentinel,.sentinel] true (true, "623716184fac11865da5f91f4b0ea5d8be7eed1129acb74824fb6633e5927957") true
  b3y (fun _ h=>by cases h) b4r (fun _ h=>by cases h) fnExactChannelLines_row_tie rfl ⟨rfl,rfl⟩ y2All rfl
  (fun f fn hf hfn=>by
   obtain rfl:f=6:=Option.some.inj (z12ChannelLines.symm.trans hf) |>.symm
   obtain rfl:fn=Tryz.f6:=(Option.some.inj (Tryz.func6.symm.trans hfn)).symm
   exact ⟨y3All,fun j t ht=>by
    rw [a5e] at ht
    match j,ht with
    | 0,ht=>
     obtain rfl:30=t:=by simpa using ht
     exact (show Tryz.prog.wantsStandIn 30=false by kernel_rfl)
    | j+1,ht=>simp at ht⟩)
  b4q
end Go.Proofs.YtapjdgcfakhpaaaGreatDoor
end
