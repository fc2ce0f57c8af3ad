/- THE CARD OF 'laws.FnExactEntriesOf': for every input the call returns true, and each argument reads as it did; the listed variables of the library are tied to the program's text. MADE BY PROGRAM (gen_row.py). -/
import Derived.Test.YtgdapgcjmfeocaaGreatDoorFb
import Derived.Test.YtgdapgcjmfeocaaGreatDoorFf
import Derived.Test.YtgdapgcjmfeocaaGreatDoorTie
import Derived.Test.YtgdapgcjmfeocaaGreatDoorCards
import Derived.SevenTiedAt
import Derived.ChangeMaps5
set_option linter.unusedVariables false
set_option maxRecDepth 100000
section
namespace Go.Proofs.YtgdapgcjmfeocaaGreatDoor
open Go Go.ChangeMaps Go.ChangeShapes Go.WideShapes Go.ChangeAt Go.RowKit Go.PW Go.KP
theorem paramsEntriesOf:Tryz.f5.params=#[30,3]:=rfl
theorem liftedEntriesOf (os:Os) (started:os.Started) (H:Type) (enc:TypeId×Value→H) :
 ReturnsInHanded {} Tryz.checked os 5 .any (fun w args=>(Rows.fnExactEntriesOfSpec.pre enc Tryz.prog Tryz.f5 [] false w args∧laidMetH Tryz.prog lay5 w)∧sizedMet enc Tryz.prog Tryz.f5 (OpenSpec.ofChange Rows.fnExactEntriesOfSpec) false w args)
  (Rows.fnExactEntriesOfSpec.post enc Tryz.prog Tryz.f5 false true false false):=by
 refine lifted_shaped (C:=Tryz.checked) (X:=fun w _=>laidMetH Tryz.prog lay5 w) (fun _ _ _ hh h=>h.of_heap hh) own started (by kernel_rfl) Tryz.func5
  (ChangeSpec.witness_shaped (enc:=enc) (C:=Tryz.checked) (os:=os) (X:=fun w _=>laidMetH Tryz.prog lay5 w) false (World.doorLaid Tryz.prog 4000 os) #[.agg #[.slice none 0 0,.string ⟨#[]⟩,.slice none 0 0,.slice none 0 0,.int .i64 0,.int .i64 0,.slice none 0 0,.slice none 0 0],.int .i64 0] 12 rfl (World.shaped_of_RefB (by kernel_rfl) (by kernel_rfl)) (by kernel_rfl) (by kernel_rfl) (by kernel_rfl) (door_met os _)) ?_
 intro W base args ds gs before hval0 hW hL hsh
 have hval:∀ (j:Nat) t v,Tryz.f5.params[j]?=some t→args[j]?=some v→Value.okWide Tryz.prog W .any base t v:=hval0
 have hW':=hW
 obtain ⟨p,q,hA0,hV,rfl,_,_⟩:=hW
 have hA:DataW.TrodAll enc Tryz.prog W 0 (fun _=>true) true Tryz.f5.params.toList args.toList ds p:=hA0
 rw [paramsEntriesOf] at hA hval
 obtain ⟨v0,v1,d0,d1,p0,p1,rfl,rfl,rfl,h0,h1⟩:=trodAll_two hA
 obtain ⟨rfl,rfl⟩:=trodVars_none hV
 obtain ⟨a0,rfl,hz0⟩:=okWide_struct (fs:=_) Tryz.underlying30 (hval 0 30 v0 rfl rfl)
 obtain ⟨r0,hr0,hq0⟩:=arg_agg (n:=7) (by kernel_rfl) hz0 h0
 obtain ⟨x0,e0,b0⟩:=pipe_ofrv (n:=0) hr0
 rw [← e0] at hq0
 obtain ⟨x1,rfl,rfl,rfl,_⟩:=open_int Tryz.underlying3 (hval 1 3 v1 rfl rfl) h1
 obtain ⟨I,hg,hb⟩:=gh_of hL hsh
 have hlaw:=@law_EntriesOf I x0 x1 b0
 refine (calls_of (v:=.bool true) hlaw (fun g hgg=>⟨fun h=>h,hg g hgg⟩) (fun g hgg=>⟨fun h=>h,hb g hgg⟩) (.cons _ _ _ _ [] [] (.val _ _ hq0) (.cons _ _ _ _ [] [] (.val _ _ (.int _ _)) .nil)) (fun L w u hu=>by cases hu;rfl)).mono fun e W' ⟨he,hbl⟩=>?_
 exact ⟨_,he,post_true laidOut rfl Tryz.underlying4 rfl (by kernel_rfl) rfl hW' hbl⟩
theorem z1EntriesOf:(Rows.fnExactEntriesOfRow.inPlace == Tryz.prog.inPlace 5)=true:=by kernel_rfl
theorem z2EntriesOf:(Rows.fnExactEntriesOfRow.unfollowed == Tryz.prog.unfollowed 5)=true:=by kernel_rfl
theorem z3EntriesOf:(Rows.fnExactEntriesOfRow.recurses == Tryz.prog.recurses 5)=true:=by kernel_rfl
theorem z4EntriesOf:(Rows.fnExactEntriesOfRow.named == Tryz.prog.varsNamed 5)=true:=by kernel_rfl
theorem z8EntriesOf:(Rows.fnExactEntriesOfRow.plainKeys == Tryz.prog.plainKeys)=true:=by rw [z8All];rfl
theorem z11EntriesOf:(Rows.fnExactEntriesOfRow.lifted == Tryz.prog.liftsFinal)=true:=by rw [z11All];rfl
theorem z12EntriesOf:Tryz.prog.funcNamed "loop.example/g00779/laws.FnExactEntriesOf" = some 5:=by kernel_rfl
theorem closedEntriesOf:joinedFacts Tryz.prog 5 Tryz.f5 Rows.fnExactEntriesOfSpec Rows.fnExactEntriesOfRow=true:=by
 unfold joinedFacts
 simp only [Bool.and_eq_true]
 repeat' (apply And.intro)
 all_goals first
  | with_reducible exact laidOut
  | with_reducible exact z1EntriesOf
  | with_reducible exact z2EntriesOf
  | with_reducible exact z3EntriesOf
  | with_reducible exact z4EntriesOf
  | with_reducible exact z5All
  | with_reducible exact z6All
  | with_reducible exact z7All
  | with_reducible exact z8EntriesOf
  | with_reducible exact z9All
  | with_reducible exact z10All
  | with_reducible exact z11EntriesOf
  | kernel_rfl
theorem instEntriesOf:Tryz.f5.isInstance Tryz.prog Rows.fnExactEntriesOfRow.origin Rows.fnExactEntriesOfRow.targs:=of_decide_eq_true (by kernel_rfl)
theorem wrapEntriesOf:Tryz.f5.isWrapper Tryz.prog Rows.fnExactEntriesOfRow.wrapper Rows.fnExactEntriesOfRow.mainSum:=by
 unfold Func.isWrapper;first | (rw [if_pos (by decide +kernel)];kernel_rfl) | (rw [if_neg (by decide +kernel)];exact ⟨rfl,rfl⟩)
theorem rowEntriesOf:Rows.FnExactEntriesOfSaid:=
 OpenClaim.holds_of_wide 5 Tryz.f5 rfl rfl rfl rfl rfl rfl rfl ⟨rfl,rfl,rfl,rfl,rfl⟩ rfl rfl rfl rfl rfl z12EntriesOf Tryz.func5 closedEntriesOf instEntriesOf wrapEntriesOf
  (fun os started H enc _=>liftedEntriesOf os started H enc)
theorem y1EntriesOf:Rows.fnExactEntriesOfRow.wfByText (OpenSpec.ofChange Rows.fnExactEntriesOfSpec)=true:=by kernel_rfl
theorem y4EntriesOf:false=Rows.fnExactEntriesOfRow.goesBy Tryz.prog:=by kernel_rfl
theorem entriesOf_card:Rows.FnExactEntriesOfCardSaid:=
 Claim7.holds_tied_plain_at .later [] [.data,.data,.data,.sentinel,.sentinel] true (true, "2e2573802ff5d0b2756901822aa9ff57152d18fe02fe994b4a45ed53894a6ecc") true
  rowEntriesOf (fun _ h=>by cases h) y1EntriesOf (fun _ h=>by cases h) fnExactEntriesOf_row_tie rfl ⟨rfl,rfl⟩ y2All rfl
  (fun f fn hf hfn=>by
   obtain rfl:f=5:=Option.some.inj (z12EntriesOf.symm.trans hf) |>.symm
   obtain rfl:fn=Tryz.f5:=(Option.some.inj (Tryz.func5.symm.trans hfn)).symm
   exact ⟨y3All,fun j t ht=>by
    rw [paramsEntriesOf] at ht
    match j,ht with
    | 0,ht=>
     obtain rfl:30=t:=by simpa using ht
     exact (show Tryz.prog.wantsStandIn 30=false by kernel_rfl)
    | 1,ht=>
     obtain rfl:3=t:=by simpa using ht
     exact (show Tryz.prog.wantsStandIn 3=false by kernel_rfl)
    | j+2,ht=>simp at ht⟩)
  y4EntriesOf
end Go.Proofs.YtgdapgcjmfeocaaGreatDoor
end
