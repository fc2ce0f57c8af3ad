/- THE CARD OF 'laws.FnExactCountFates': for every input the call returns true, and each argument reads as it did; the listed variables of the library are tied to the program's text. MADE BY PROGRAM (gen_row.py). -/
import Derived.Test.YtgdapgcjmfeocaaGreatDoorFb
import Derived.Test.YtgdapgcjmfeocaaGreatDoorFf
import Derived.Test.YtgdapgcjmfeocaaGreatDoorTie
import Derived.Test.YtgdapgcjmfeocaaGreatDoorCards
import Derived.SevenTiedAt
import Derived.ChangeMaps5
set_option linter.unusedVariables false
set_option maxRecDepth 100000
section
namespace Go.Proofs.YtgdapgcjmfeocaaGreatDoor
open Go Go.ChangeMaps Go.ChangeShapes Go.WideShapes Go.ChangeAt Go.RowKit Go.PW Go.KP
theorem a6c:Tryz.f7.params=#[30]:=rfl
theorem b12 (os:Os) (started:os.Started) (H:Type) (enc:TypeId×Value→H) :
 ReturnsInHanded {} Tryz.checked os 7 .any (fun w args=>(Rows.fnExactCountFatesSpec.pre enc Tryz.prog Tryz.f7 [] false w args∧laidMetH Tryz.prog d0g w)∧sizedMet enc Tryz.prog Tryz.f7 (OpenSpec.ofChange Rows.fnExactCountFatesSpec) false w args)
  (Rows.fnExactCountFatesSpec.post enc Tryz.prog Tryz.f7 false true false false):=by
 refine b6v (C:=Tryz.checked) (X:=fun w _=>laidMetH Tryz.prog d0g w) (fun _ _ _ hh h=>h.of_heap hh) own started (by kernel_rfl) Tryz.func7
  (ChangeSpec.witness_shaped (enc:=enc) (C:=Tryz.checked) (os:=os) (X:=fun w _=>laidMetH Tryz.prog d0g w) false (World.doorLaid Tryz.prog 4000 os) #[.agg #[.slice none 0 0,.string ⟨#[]⟩,.slice none 0 0,.slice none 0 0,.int .i64 0,.int .i64 0,.slice none 0 0,.slice none 0 0]] 12 rfl (World.shaped_of_RefB (by kernel_rfl) (by kernel_rfl)) (by kernel_rfl) (by kernel_rfl) (by kernel_rfl) (d1d os _)) ?_
 intro W base args ds gs before hval0 hW hL hsh
 have hval:∀ (j:Nat) t v,Tryz.f7.params[j]?=some t→args[j]?=some v→Value.okWide Tryz.prog W .any base t v:=hval0
 have hW':=hW
 obtain ⟨p,q,hA0,hV,rfl,_,_⟩:=hW
 have hA:DataW.TrodAll enc Tryz.prog W 0 (fun _=>true) true Tryz.f7.params.toList args.toList ds p:=hA0
 rw [a6c] at hA hval
 obtain ⟨v0,d0,rfl,rfl,h0⟩:=trodAll_one hA
 obtain ⟨rfl,rfl⟩:=trodVars_none hV
 obtain ⟨a0,rfl,hz0⟩:=okWide_struct (fs:=_) Tryz.underlying30 (hval 0 30 v0 rfl rfl)
 obtain ⟨r0,hr0,hq0⟩:=arg_agg (n:=7) (by kernel_rfl) hz0 h0
 obtain ⟨x0,e0,b0⟩:=c63 (n:=0) hr0
 rw [← e0] at hq0
 obtain ⟨I,hg,hb⟩:=gh_of hL hsh
 have hlaw:=@b45 I x0 b0
 refine (d1k (v:=.bool true) hlaw (fun g hgg=>⟨fun h=>h,hg g hgg⟩) (fun g hgg=>⟨fun h=>h,hb g hgg⟩) (.cons _ _ _ _ [] [] (.val _ _ hq0) .nil) (fun L w u hu=>by cases hu;rfl)).mono fun e W' ⟨he,hbl⟩=>?_
 exact ⟨_,he,c62 c59 rfl Tryz.underlying4 rfl (by kernel_rfl) rfl hW' hbl⟩
theorem b75:(Rows.fnExactCountFatesRow.inPlace == Tryz.prog.inPlace 7)=true:=by kernel_rfl
theorem b74:(Rows.fnExactCountFatesRow.unfollowed == Tryz.prog.unfollowed 7)=true:=by kernel_rfl
theorem b73:(Rows.fnExactCountFatesRow.recurses == Tryz.prog.recurses 7)=true:=by kernel_rfl
theorem b72:(Rows.fnExactCountFatesRow.named == Tryz.prog.varsNamed 7)=true:=by kernel_rfl
theorem b71:(Rows.fnExactCountFatesRow.plainKeys == Tryz.prog.plainKeys)=true:=by rw [z8All];rfl
theorem b6j:(Rows.fnExactCountFatesRow.lifted == Tryz.prog.liftsFinal)=true:=by rw [z11All];rfl
theorem z12CountFates:Tryz.prog.funcNamed "loop.example/g00779/laws.FnExactCountFates" = some 7:=by kernel_rfl
theorem b2c:joinedFacts Tryz.prog 7 Tryz.f7 Rows.fnExactCountFatesSpec Rows.fnExactCountFatesRow=true:=by
 unfold joinedFacts
 simp only [Bool.and_eq_true]
 repeat' (apply And.intro)
 all_goals first
  | with_reducible exact c59
  | with_reducible exact b75
  | with_reducible exact b74
  | with_reducible exact b73
  | with_reducible exact b72
  | with_reducible exact z5All
  | with_reducible exact z6All
  | with_reducible exact z7All
  | with_reducible exact b71
  | with_reducible exact z9All
  | with_reducible exact z10All
  | with_reducible exact b6j
  | kernel_rfl
theorem b49:Tryz.f7.isInstance Tryz.prog Rows.fnExactCountFatesRow.origin Rows.fnExactCountFatesRow.targs:=of_decide_eq_true (by kernel_rfl)
theorem b33:Tryz.f7.isWrapper Tryz.prog Rows.fnExactCountFatesRow.wrapper Rows.fnExactCountFatesRow.mainSum:=by
 unfold Func.isWrapper;first | (rw [if_pos (by decide +kernel)];kernel_rfl) | (rw [if_neg (by decide +kernel)];exact ⟨rfl,rfl⟩)
theorem b6p:Rows.FnExactCountFatesSaid:=
 OpenClaim.holds_of_wide 7 Tryz.f7 rfl rfl rfl rfl rfl rfl rfl ⟨rfl,rfl,rfl,rfl,rfl⟩ rfl rfl rfl rfl rfl z12CountFates Tryz.func7 b2c b49 b33
  (fun os started H enc _=>b12 os started H enc)
theorem b79:Rows.fnExactCountFatesRow.wfByText (OpenSpec.ofChange Rows.fnExactCountFatesSpec)=true:=by kernel_rfl
theorem b78:false=Rows.fnExactCountFatesRow.goesBy Tryz.prog:=by kernel_rfl
theorem countFates_card:Rows.FnExactCountFatesCardSaid:=
 Claim7.holds_tied_plain_at .later [] [.data,.data,.data,.sentinel,.sentinel] true (true, "2e2573802ff5d0b2756901822aa9ff57152d18fe02fe994b4a45ed53894a6ecc") true
  b6p (fun _ h=>by cases h) b79 (fun _ h=>by cases h) fnExactCountFates_row_tie rfl ⟨rfl,rfl⟩ y2All rfl
  (fun f fn hf hfn=>by
   obtain rfl:f=7:=Option.some.inj (z12CountFates.symm.trans hf) |>.symm
   obtain rfl:fn=Tryz.f7:=(Option.some.inj (Tryz.func7.symm.trans hfn)).symm
   exact ⟨y3All,fun j t ht=>by
    rw [a6c] at ht
    match j,ht with
    | 0,ht=>
     obtain rfl:30=t:=by simpa using ht
     exact (show Tryz.prog.wantsStandIn 30=false by kernel_rfl)
    | j+1,ht=>simp at ht⟩)
  b78
end Go.Proofs.YtgdapgcjmfeocaaGreatDoor
end
