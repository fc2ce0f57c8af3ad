/- THE CARD OF 'laws.FnExactIdsOf': for every input the call returns true, and each argument reads as it did; the listed variables of the library are tied to the program's text. MADE BY PROGRAM (gen_row.py). -/
import Derived.Test.YtgdapgcjmfeocaaGreatDoorFb
import Derived.Test.YtgdapgcjmfeocaaGreatDoorFf
import Derived.Test.YtgdapgcjmfeocaaGreatDoorTie
import Derived.Test.YtgdapgcjmfeocaaGreatDoorCards
import Derived.SevenTiedAt
import Derived.ChangeMaps5
set_option linter.unusedVariables false
set_option maxRecDepth 100000
section
namespace Go.Proofs.YtgdapgcjmfeocaaGreatDoor
open Go Go.ChangeMaps Go.ChangeShapes Go.WideShapes Go.ChangeAt Go.RowKit Go.PW Go.KP
theorem b2r:Tryz.f6.params=#[30,3]:=rfl
theorem c0t (os:Os) (started:os.Started) (H:Type) (enc:TypeId×Value→H) :
 ReturnsInHanded {} Tryz.checked os 6 .any (fun w args=>(Rows.fnExactIdsOfSpec.pre enc Tryz.prog Tryz.f6 [] false w args∧laidMetH Tryz.prog c99 w)∧sizedMet enc Tryz.prog Tryz.f6 (OpenSpec.ofChange Rows.fnExactIdsOfSpec) false w args)
  (Rows.fnExactIdsOfSpec.post enc Tryz.prog Tryz.f6 false true false false):=by
 refine b6o (C:=Tryz.checked) (X:=fun w _=>laidMetH Tryz.prog c99 w) (fun _ _ _ hh h=>h.of_heap hh) own started (by kernel_rfl) Tryz.func6
  (ChangeSpec.witness_shaped (enc:=enc) (C:=Tryz.checked) (os:=os) (X:=fun w _=>laidMetH Tryz.prog c99 w) false (World.doorLaid Tryz.prog 4000 os) #[.agg #[.slice none 0 0,.string ⟨#[]⟩,.slice none 0 0,.slice none 0 0,.int .i64 0,.int .i64 0,.slice none 0 0,.slice none 0 0],.int .i64 0] 12 rfl (World.shaped_of_RefB (by kernel_rfl) (by kernel_rfl)) (by kernel_rfl) (by kernel_rfl) (by kernel_rfl) (d06 os _)) ?_
 intro W base args ds gs before hval0 hW hL hsh
 have hval:∀ (j:Nat) t v,Tryz.f6.params[j]?=some t→args[j]?=some v→Value.okWide Tryz.prog W .any base t v:=hval0
 have hW':=hW
 obtain ⟨p,q,hA0,hV,rfl,_,_⟩:=hW
 have hA:DataW.TrodAll enc Tryz.prog W 0 (fun _=>true) true Tryz.f6.params.toList args.toList ds p:=hA0
 rw [b2r] at hA hval
 obtain ⟨v0,v1,d0,d1,p0,p1,rfl,rfl,rfl,h0,h1⟩:=trodAll_two hA
 obtain ⟨rfl,rfl⟩:=trodVars_none hV
 obtain ⟨a0,rfl,hz0⟩:=okWide_struct (fs:=_) Tryz.underlying30 (hval 0 30 v0 rfl rfl)
 obtain ⟨r0,hr0,hq0⟩:=arg_agg (n:=7) (by kernel_rfl) hz0 h0
 obtain ⟨x0,e0,b0⟩:=c6r (n:=0) hr0
 rw [← e0] at hq0
 obtain ⟨x1,rfl,rfl,rfl,_⟩:=open_int Tryz.underlying3 (hval 1 3 v1 rfl rfl) h1
 obtain ⟨I,hg,hb⟩:=gh_of hL hsh
 have hlaw:=@c69 I x0 x1 b0
 refine (d1d (v:=.bool true) hlaw (fun g hgg=>⟨fun h=>h,hg g hgg⟩) (fun g hgg=>⟨fun h=>h,hb g hgg⟩) (.cons _ _ _ _ [] [] (.val _ _ hq0) (.cons _ _ _ _ [] [] (.val _ _ (.int _ _)) .nil)) (fun L w u hu=>by cases hu;rfl)).mono fun e W' ⟨he,hbl⟩=>?_
 exact ⟨_,he,c6q c5t rfl Tryz.underlying4 rfl (by kernel_rfl) rfl hW' hbl⟩
theorem z1IdsOf:(Rows.fnExactIdsOfRow.inPlace == Tryz.prog.inPlace 6)=true:=by kernel_rfl
theorem z2IdsOf:(Rows.fnExactIdsOfRow.unfollowed == Tryz.prog.unfollowed 6)=true:=by kernel_rfl
theorem z3IdsOf:(Rows.fnExactIdsOfRow.recurses == Tryz.prog.recurses 6)=true:=by kernel_rfl
theorem z4IdsOf:(Rows.fnExactIdsOfRow.named == Tryz.prog.varsNamed 6)=true:=by kernel_rfl
theorem z8IdsOf:(Rows.fnExactIdsOfRow.plainKeys == Tryz.prog.plainKeys)=true:=by rw [z8All];rfl
theorem c81:(Rows.fnExactIdsOfRow.lifted == Tryz.prog.liftsFinal)=true:=by rw [z11All];rfl
theorem z12IdsOf:Tryz.prog.funcNamed "loop.example/g00779/laws.FnExactIdsOf" = some 6:=by kernel_rfl
theorem c14:joinedFacts Tryz.prog 6 Tryz.f6 Rows.fnExactIdsOfSpec Rows.fnExactIdsOfRow=true:=by
 unfold joinedFacts
 simp only [Bool.and_eq_true]
 repeat' (apply And.intro)
 all_goals first
  | with_reducible exact c5t
  | with_reducible exact z1IdsOf
  | with_reducible exact z2IdsOf
  | with_reducible exact z3IdsOf
  | with_reducible exact z4IdsOf
  | with_reducible exact z5All
  | with_reducible exact z6All
  | with_reducible exact z7All
  | with_reducible exact z8IdsOf
  | with_reducible exact z9All
  | with_reducible exact z10All
  | with_reducible exact c81
  | kernel_rfl
theorem c7d:Tryz.f6.isInstance Tryz.prog Rows.fnExactIdsOfRow.origin Rows.fnExactIdsOfRow.targs:=of_decide_eq_true (by kernel_rfl)
theorem c6h:Tryz.f6.isWrapper Tryz.prog Rows.fnExactIdsOfRow.wrapper Rows.fnExactIdsOfRow.mainSum:=by
 unfold Func.isWrapper;first | (rw [if_pos (by decide +kernel)];kernel_rfl) | (rw [if_neg (by decide +kernel)];exact ⟨rfl,rfl⟩)
theorem c9g:Rows.FnExactIdsOfSaid:=
 OpenClaim.holds_of_wide 6 Tryz.f6 rfl rfl rfl rfl rfl rfl rfl ⟨rfl,rfl,rfl,rfl,rfl⟩ rfl rfl rfl rfl rfl z12IdsOf Tryz.func6 c14 c7d c6h
  (fun os started H enc _=>c0t os started H enc)
theorem y1IdsOf:Rows.fnExactIdsOfRow.wfByText (OpenSpec.ofChange Rows.fnExactIdsOfSpec)=true:=by kernel_rfl
theorem y4IdsOf:false=Rows.fnExactIdsOfRow.goesBy Tryz.prog:=by kernel_rfl
theorem idsOf_card:Rows.FnExactIdsOfCardSaid:=
 Claim7.holds_tied_plain_at .later [] [.data,.data,.data,.sentinel,.sentinel] true (true, "2e2573802ff5d0b2756901822aa9ff57152d18fe02fe994b4a45ed53894a6ecc") true
  c9g (fun _ h=>by cases h) y1IdsOf (fun _ h=>by cases h) fnExactIdsOf_row_tie rfl ⟨rfl,rfl⟩ y2All rfl
  (fun f fn hf hfn=>by
   obtain rfl:f=6:=Option.some.inj (z12IdsOf.symm.trans hf) |>.symm
   obtain rfl:fn=Tryz.f6:=(Option.some.inj (Tryz.func6.symm.trans hfn)).symm
   exact ⟨y3All,fun j t ht=>by
    rw [b2r] at ht
    match j,ht with
    | 0,ht=>
     obtain rfl:30=t:=by simpa using ht
     exact (show Tryz.prog.wantsStandIn 30=false by kernel_rfl)
    | 1,ht=>
     obtain rfl:3=t:=by simpa using ht
     exact (show Tryz.prog.wantsStandIn 3=false by kernel_rfl)
    | j+2,ht=>simp at ht⟩)
  y4IdsOf
end Go.Proofs.YtgdapgcjmfeocaaGreatDoor
end
