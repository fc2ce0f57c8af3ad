/- THE CARD OF 'laws.FnExactAtMostOnce': for every input the call returns true, and each argument reads as it did; the listed variables of the library are tied to the program's text. MADE BY PROGRAM (gen_row.py). -/
import Derived.Test.YtapjdgcfakhpaaaGreatDoorFb
import Derived.Test.YtapjdgcfakhpaaaGreatDoorFh
import Derived.Test.YtapjdgcfakhpaaaGreatDoorTie
import Derived.Test.YtapjdgcfakhpaaaGreatDoorCards
import Derived.SevenTiedAt
import Derived.ChangeMaps5
set_option linter.unusedVariables false
set_option maxRecDepth 100000
section
namespace Go.Proofs.YtapjdgcfakhpaaaGreatDoor
open Go Go.ChangeMaps Go.ChangeShapes Go.WideShapes Go.ChangeAt Go.RowKit Go.PW Go.KP
theorem a41:Tryz.f3.params=#[30]:=rfl
theorem a9v (os:Os) (started:os.Started) (H:Type) (enc:TypeId×Value→H) :
 ReturnsInHanded {} Tryz.checked os 3 .any (fun w args=>(Rows.fnExactAtMostOnceSpec.pre enc Tryz.prog Tryz.f3 [] false w args∧laidMetH Tryz.prog c6l w)∧sizedMet enc Tryz.prog Tryz.f3 (OpenSpec.ofChange Rows.fnExactAtMostOnceSpec) false w args)
  (Rows.fnExactAtMostOnceSpec.post enc Tryz.prog Tryz.f3 false true false false):=by
 refine b32 (C:=Tryz.checked) (X:=fun w _=>laidMetH Tryz.prog c6l w) (fun _ _ _ hh h=>h.of_heap hh) own started (by kernel_rfl) Tryz.func3
  (ChangeSpec.witness_shaped (enc:=enc) (C:=Tryz.checked) (os:=os) (X:=fun w _=>laidMetH Tryz.prog c6l w) false (World.doorLaid Tryz.prog 4000 os) #[.agg #[.slice none 0 0,.string ⟨#[]⟩,.slice none 0 0,.slice none 0 0,.int .i64 0,.int .i64 0,.slice none 0 0,.slice none 0 0]] 12 rfl (World.shaped_of_RefB (by kernel_rfl) (by kernel_rfl)) (by kernel_rfl) (by kernel_rfl) (by kernel_rfl) (c7j os _)) ?_
 intro W base args ds gs before hval0 hW hL hsh
 have hval:∀ (j:Nat) t v,Tryz.f3.params[j]?=some t→args[j]?=some v→Value.okWide Tryz.prog W .any base t v:=hval0
 have hW':=hW
 obtain ⟨p,q,hA0,hV,rfl,_,_⟩:=hW
 have hA:DataW.TrodAll enc Tryz.prog W 0 (fun _=>true) true Tryz.f3.params.toList args.toList ds p:=hA0
 rw [a41] at hA hval
 obtain ⟨v0,d0,rfl,rfl,h0⟩:=trodAll_one hA
 obtain ⟨rfl,rfl⟩:=trodVars_none hV
 obtain ⟨a0,rfl,hz0⟩:=okWide_struct (fs:=_) Tryz.underlying30 (hval 0 30 v0 rfl rfl)
 obtain ⟨r0,hr0,hq0⟩:=arg_agg (n:=7) (by kernel_rfl) hz0 h0
 obtain ⟨x0,e0,b0⟩:=c3h (n:=0) hr0
 rw [← e0] at hq0
 obtain ⟨I,hg,hb⟩:=gh_of hL hsh
 have hlaw:=@b2l I x0 b0
 refine (c7n (v:=.bool true) hlaw (fun g hgg=>⟨fun h=>h,hg g hgg⟩) (fun g hgg=>⟨fun h=>h,hb g hgg⟩) (.cons _ _ _ _ [] [] (.val _ _ hq0) .nil) (fun L w u hu=>by cases hu;rfl)).mono fun e W' ⟨he,hbl⟩=>?_
 exact ⟨_,he,c3g c2d rfl Tryz.underlying4 rfl (by kernel_rfl) rfl hW' hbl⟩
theorem b41:(Rows.fnExactAtMostOnceRow.inPlace == Tryz.prog.inPlace 3)=true:=by kernel_rfl
theorem b40:(Rows.fnExactAtMostOnceRow.unfollowed == Tryz.prog.unfollowed 3)=true:=by kernel_rfl
theorem b4z:(Rows.fnExactAtMostOnceRow.recurses == Tryz.prog.recurses 3)=true:=by kernel_rfl
theorem b4y:(Rows.fnExactAtMostOnceRow.named == Tryz.prog.varsNamed 3)=true:=by kernel_rfl
theorem b4x:(Rows.fnExactAtMostOnceRow.plainKeys == Tryz.prog.plainKeys)=true:=by rw [z8All];rfl
theorem b3r:(Rows.fnExactAtMostOnceRow.lifted == Tryz.prog.liftsFinal)=true:=by rw [z11All];rfl
theorem z12AtMostOnce:Tryz.prog.funcNamed "loop.example/g00779/laws.FnExactAtMostOnce" = some 3:=by kernel_rfl
theorem a92:joinedFacts Tryz.prog 3 Tryz.f3 Rows.fnExactAtMostOnceSpec Rows.fnExactAtMostOnceRow=true:=by
 unfold joinedFacts
 simp only [Bool.and_eq_true]
 repeat' (apply And.intro)
 all_goals first
  | with_reducible exact c2d
  | with_reducible exact b41
  | with_reducible exact b40
  | with_reducible exact b4z
  | with_reducible exact b4y
  | with_reducible exact z5All
  | with_reducible exact z6All
  | with_reducible exact z7All
  | with_reducible exact b4x
  | with_reducible exact z9All
  | with_reducible exact z10All
  | with_reducible exact b3r
  | kernel_rfl
theorem b2o:Tryz.f3.isInstance Tryz.prog Rows.fnExactAtMostOnceRow.origin Rows.fnExactAtMostOnceRow.targs:=of_decide_eq_true (by kernel_rfl)
theorem b1p:Tryz.f3.isWrapper Tryz.prog Rows.fnExactAtMostOnceRow.wrapper Rows.fnExactAtMostOnceRow.mainSum:=by
 unfold Func.isWrapper;first | (rw [if_pos (by decide +kernel)];kernel_rfl) | (rw [if_neg (by decide +kernel)];exact ⟨rfl,rfl⟩)
theorem b3x:Rows.FnExactAtMostOnceSaid:=
 OpenClaim.holds_of_wide 3 Tryz.f3 rfl rfl rfl rfl rfl rfl rfl ⟨rfl,rfl,rfl,rfl,rfl⟩ rfl rfl rfl rfl rfl z12AtMostOnce Tryz.func3 a92 b2o b1p
  (fun os started H enc _=>a9v os started H enc)
theorem b45:Rows.fnExactAtMostOnceRow.wfByText (OpenSpec.ofChange Rows.fnExactAtMostOnceSpec)=true:=by kernel_rfl
theorem b44:false=Rows.fnExactAtMostOnceRow.goesBy Tryz.prog:=by kernel_rfl
theorem atMostOnce_card:Rows.FnExactAtMostOnceCardSaid:=
 Claim7.holds_tied_plain_at .later [] [.data,.data,.data,.sentinel,.sentinel] true (true, "623716184fac11865da5f91f4b0ea5d8be7eed1129acb74824fb6633e5927957") true
  b3x (fun _ h=>by cases h) b45 (fun _ h=>by cases h) fnExactAtMostOnce_row_tie rfl ⟨rfl,rfl⟩ y2All rfl
  (fun f fn hf hfn=>by
   obtain rfl:f=3:=Option.some.inj (z12AtMostOnce.symm.trans hf) |>.symm
   obtain rfl:fn=Tryz.f3:=(Option.some.inj (Tryz.func3.symm.trans hfn)).symm
   exact ⟨y3All,fun j t ht=>by
    rw [a41] at ht
    match j,ht with
    | 0,ht=>
     obtain rfl:30=t:=by simpa using ht
     exact (show Tryz.prog.wantsStandIn 30=false by kernel_rfl)
    | j+1,ht=>simp at ht⟩)
  b44
end Go.Proofs.YtapjdgcfakhpaaaGreatDoor
end
