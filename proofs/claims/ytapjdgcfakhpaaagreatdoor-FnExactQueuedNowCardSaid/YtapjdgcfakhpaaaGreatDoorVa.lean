/- THE CARD OF 'laws.FnExactQueuedNow': for every input the call returns true, and each argument reads as it did; the listed variables of the library are tied to the program's text. MADE BY PROGRAM (gen_row.py). -/
import Derived.Test.YtapjdgcfakhpaaaGreatDoorFb
import Derived.Test.YtapjdgcfakhpaaaGreatDoorFi
import Derived.Test.YtapjdgcfakhpaaaGreatDoorTie
import Derived.Test.YtapjdgcfakhpaaaGreatDoorCards
import Derived.SevenTiedAt
import Derived.ChangeMaps5
set_option linter.unusedVariables false
set_option maxRecDepth 100000
section
namespace Go.Proofs.YtapjdgcfakhpaaaGreatDoor
open Go Go.ChangeMaps Go.ChangeShapes Go.WideShapes Go.ChangeAt Go.RowKit Go.PW Go.KP
theorem a7f:Tryz.f4.params=#[30]:=rfl
theorem b3m (os:Os) (started:os.Started) (H:Type) (enc:TypeId×Value→H) :
 ReturnsInHanded {} Tryz.checked os 4 .any (fun w args=>(Rows.fnExactQueuedNowSpec.pre enc Tryz.prog Tryz.f4 [] false w args∧laidMetH Tryz.prog d0l w)∧sizedMet enc Tryz.prog Tryz.f4 (OpenSpec.ofChange Rows.fnExactQueuedNowSpec) false w args)
  (Rows.fnExactQueuedNowSpec.post enc Tryz.prog Tryz.f4 false true false false):=by
 refine b6y (C:=Tryz.checked) (X:=fun w _=>laidMetH Tryz.prog d0l w) (fun _ _ _ hh h=>h.of_heap hh) own started (by kernel_rfl) Tryz.func4
  (ChangeSpec.witness_shaped (enc:=enc) (C:=Tryz.checked) (os:=os) (X:=fun w _=>laidMetH Tryz.prog d0l w) false (World.doorLaid Tryz.prog 4000 os) #[.agg #[.slice none 0 0,.string ⟨#[]⟩,.slice none 0 0,.slice none 0 0,.int .i64 0,.int .i64 0,.slice none 0 0,.slice none 0 0]] 12 rfl (World.shaped_of_RefB (by kernel_rfl) (by kernel_rfl)) (by kernel_rfl) (by kernel_rfl) (by kernel_rfl) (d1i os _)) ?_
 intro W base args ds gs before hval0 hW hL hsh
 have hval:∀ (j:Nat) t v,Tryz.f4.params[j]?=some t→args[j]?=some v→Value.okWide Tryz.prog W .any base t v:=hval0
 have hW':=hW
 obtain ⟨p,q,hA0,hV,rfl,_,_⟩:=hW
 have hA:DataW.TrodAll enc Tryz.prog W 0 (fun _=>true) true Tryz.f4.params.toList args.toList ds p:=hA0
 rw [a7f] at hA hval
 obtain ⟨v0,d0,rfl,rfl,h0⟩:=trodAll_one hA
 obtain ⟨rfl,rfl⟩:=trodVars_none hV
 obtain ⟨a0,rfl,hz0⟩:=okWide_struct (fs:=_) Tryz.underlying30 (hval 0 30 v0 rfl rfl)
 obtain ⟨r0,hr0,hq0⟩:=arg_agg (n:=7) (by kernel_rfl) hz0 h0
 obtain ⟨x0,e0,b0⟩:=c7a (n:=0) hr0
 rw [← e0] at hq0
 obtain ⟨I,hg,hb⟩:=gh_of hL hsh
 have hlaw:=@b6z I x0 b0
 refine (d1p (v:=.bool true) hlaw (fun g hgg=>⟨fun h=>h,hg g hgg⟩) (fun g hgg=>⟨fun h=>h,hb g hgg⟩) (.cons _ _ _ _ [] [] (.val _ _ hq0) .nil) (fun L w u hu=>by cases hu;rfl)).mono fun e W' ⟨he,hbl⟩=>?_
 exact ⟨_,he,c69 c6g rfl Tryz.underlying4 rfl (by kernel_rfl) rfl hW' hbl⟩
theorem b95:(Rows.fnExactQueuedNowRow.inPlace == Tryz.prog.inPlace 4)=true:=by kernel_rfl
theorem b94:(Rows.fnExactQueuedNowRow.unfollowed == Tryz.prog.unfollowed 4)=true:=by kernel_rfl
theorem b93:(Rows.fnExactQueuedNowRow.recurses == Tryz.prog.recurses 4)=true:=by kernel_rfl
theorem b92:(Rows.fnExactQueuedNowRow.named == Tryz.prog.varsNamed 4)=true:=by kernel_rfl
theorem b91:(Rows.fnExactQueuedNowRow.plainKeys == Tryz.prog.plainKeys)=true:=by rw [z8All];rfl
theorem b77:(Rows.fnExactQueuedNowRow.lifted == Tryz.prog.liftsFinal)=true:=by rw [z11All];rfl
theorem z12QueuedNow:Tryz.prog.funcNamed "loop.example/g00779/laws.FnExactQueuedNow" = some 4:=by kernel_rfl
theorem b3s:joinedFacts Tryz.prog 4 Tryz.f4 Rows.fnExactQueuedNowSpec Rows.fnExactQueuedNowRow=true:=by
 unfold joinedFacts
 simp only [Bool.and_eq_true]
 repeat' (apply And.intro)
 all_goals first
  | with_reducible exact c6g
  | with_reducible exact b95
  | with_reducible exact b94
  | with_reducible exact b93
  | with_reducible exact b92
  | with_reducible exact z5All
  | with_reducible exact z6All
  | with_reducible exact z7All
  | with_reducible exact b91
  | with_reducible exact z9All
  | with_reducible exact z10All
  | with_reducible exact b77
  | kernel_rfl
theorem b64:Tryz.f4.isInstance Tryz.prog Rows.fnExactQueuedNowRow.origin Rows.fnExactQueuedNowRow.targs:=of_decide_eq_true (by kernel_rfl)
theorem b6n:Tryz.f4.isWrapper Tryz.prog Rows.fnExactQueuedNowRow.wrapper Rows.fnExactQueuedNowRow.mainSum:=by
 unfold Func.isWrapper;first | (rw [if_pos (by decide +kernel)];kernel_rfl) | (rw [if_neg (by decide +kernel)];exact ⟨rfl,rfl⟩)
theorem b8f:Rows.FnExactQueuedNowSaid:=
 OpenClaim.holds_of_wide 4 Tryz.f4 rfl rfl rfl rfl rfl rfl rfl ⟨rfl,rfl,rfl,rfl,rfl⟩ rfl rfl rfl rfl rfl z12QueuedNow Tryz.func4 b3s b64 b6n
  (fun os started H enc _=>b3m os started H enc)
theorem b97:Rows.fnExactQueuedNowRow.wfByText (OpenSpec.ofChange Rows.fnExactQueuedNowSpec)=true:=by kernel_rfl
theorem b96:false=Rows.fnExactQueuedNowRow.goesBy Tryz.prog:=by kernel_rfl
theorem queuedNow_card:Rows.FnExactQueuedNowCardSaid:=
 Claim7.holds_tied_plain_at .later [] [.data,.data,.data,.sentinel,.sentinel] true (true, "623716184fac11865da5f91f4b0ea5d8be7eed1129acb74824fb6633e5927957") true
  b8f (fun _ h=>by cases h) b97 (fun _ h=>by cases h) fnExactQueuedNow_row_tie rfl ⟨rfl,rfl⟩ y2All rfl
  (fun f fn hf hfn=>by
   obtain rfl:f=4:=Option.some.inj (z12QueuedNow.symm.trans hf) |>.symm
   obtain rfl:fn=Tryz.f4:=(Option.some.inj (Tryz.func4.symm.trans hfn)).symm
   exact ⟨y3All,fun j t ht=>by
    rw [a7f] at ht
    match j,ht with
    | 0,ht=>
     obtain rfl:30=t:=by simpa using ht
     exact (show Tryz.prog.wantsStandIn 30=false by kernel_rfl)
    | j+1,ht=>simp at ht⟩)
  b96
end Go.Proofs.YtapjdgcfakhpaaaGreatDoor
end
