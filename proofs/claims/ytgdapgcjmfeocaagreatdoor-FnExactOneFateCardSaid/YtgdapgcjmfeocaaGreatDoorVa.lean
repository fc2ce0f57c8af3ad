/- THE CARD OF 'laws.FnExactOneFate': for every input the call returns true, and each argument reads as it did; the listed variables of the library are tied to the program's text. MADE BY PROGRAM (gen_row.py). -/
import Derived.Test.YtgdapgcjmfeocaaGreatDoorFb
import Derived.Test.YtgdapgcjmfeocaaGreatDoorFg
import Derived.Test.YtgdapgcjmfeocaaGreatDoorTie
import Derived.Test.YtgdapgcjmfeocaaGreatDoorCards
import Derived.SevenTiedAt
import Derived.ChangeMaps5
set_option linter.unusedVariables false
set_option maxRecDepth 100000
section
namespace Go.Proofs.YtgdapgcjmfeocaaGreatDoor
open Go Go.ChangeMaps Go.ChangeShapes Go.WideShapes Go.ChangeAt Go.RowKit Go.PW Go.KP
theorem a7l:Tryz.f8.params=#[30]:=rfl
theorem b38 (os:Os) (started:os.Started) (H:Type) (enc:TypeId×Value→H) :
 ReturnsInHanded {} Tryz.checked os 8 .any (fun w args=>(Rows.fnExactOneFateSpec.pre enc Tryz.prog Tryz.f8 [] false w args∧laidMetH Tryz.prog c65 w)∧sizedMet enc Tryz.prog Tryz.f8 (OpenSpec.ofChange Rows.fnExactOneFateSpec) false w args)
  (Rows.fnExactOneFateSpec.post enc Tryz.prog Tryz.f8 false true false false):=by
 refine b37 (C:=Tryz.checked) (X:=fun w _=>laidMetH Tryz.prog c65 w) (fun _ _ _ hh h=>h.of_heap hh) own started (by kernel_rfl) Tryz.func8
  (ChangeSpec.witness_shaped (enc:=enc) (C:=Tryz.checked) (os:=os) (X:=fun w _=>laidMetH Tryz.prog c65 w) false (World.doorLaid Tryz.prog 4000 os) #[.agg #[.slice none 0 0,.string ⟨#[]⟩,.slice none 0 0,.slice none 0 0,.int .i64 0,.int .i64 0,.slice none 0 0,.slice none 0 0]] 12 rfl (World.shaped_of_RefB (by kernel_rfl) (by kernel_rfl)) (by kernel_rfl) (by kernel_rfl) (by kernel_rfl) (c78 os _)) ?_
 intro W base args ds gs before hval0 hW hL hsh
 have hval:∀ (j:Nat) t v,Tryz.f8.params[j]?=some t→args[j]?=some v→Value.okWide Tryz.prog W .any base t v:=hval0
 have hW':=hW
 obtain ⟨p,q,hA0,hV,rfl,_,_⟩:=hW
 have hA:DataW.TrodAll enc Tryz.prog W 0 (fun _=>true) true Tryz.f8.params.toList args.toList ds p:=hA0
 rw [a7l] at hA hval
 obtain ⟨v0,d0,rfl,rfl,h0⟩:=trodAll_one hA
 obtain ⟨rfl,rfl⟩:=trodVars_none hV
 obtain ⟨a0,rfl,hz0⟩:=okWide_struct (fs:=_) Tryz.underlying30 (hval 0 30 v0 rfl rfl)
 obtain ⟨r0,hr0,hq0⟩:=arg_agg (n:=7) (by kernel_rfl) hz0 h0
 obtain ⟨x0,e0,b0⟩:=c3y (n:=0) hr0
 rw [← e0] at hq0
 obtain ⟨I,hg,hb⟩:=gh_of hL hsh
 have hlaw:=@b76 I x0 b0
 refine (c8c (v:=.bool true) hlaw (fun g hgg=>⟨fun h=>h,hg g hgg⟩) (fun g hgg=>⟨fun h=>h,hb g hgg⟩) (.cons _ _ _ _ [] [] (.val _ _ hq0) .nil) (fun L w u hu=>by cases hu;rfl)).mono fun e W' ⟨he,hbl⟩=>?_
 exact ⟨_,he,c3x c2p rfl Tryz.underlying4 rfl (by kernel_rfl) rfl hW' hbl⟩
theorem c3k:(Rows.fnExactOneFateRow.inPlace == Tryz.prog.inPlace 8)=true:=by kernel_rfl
theorem c3j:(Rows.fnExactOneFateRow.unfollowed == Tryz.prog.unfollowed 8)=true:=by kernel_rfl
theorem c3i:(Rows.fnExactOneFateRow.recurses == Tryz.prog.recurses 8)=true:=by kernel_rfl
theorem c3h:(Rows.fnExactOneFateRow.named == Tryz.prog.varsNamed 8)=true:=by kernel_rfl
theorem c3g:(Rows.fnExactOneFateRow.plainKeys == Tryz.prog.plainKeys)=true:=by rw [z8All];rfl
theorem b9s:(Rows.fnExactOneFateRow.lifted == Tryz.prog.liftsFinal)=true:=by rw [z11All];rfl
theorem z12OneFate:Tryz.prog.funcNamed "loop.example/g00779/laws.FnExactOneFate" = some 8:=by kernel_rfl
theorem b4h:joinedFacts Tryz.prog 8 Tryz.f8 Rows.fnExactOneFateSpec Rows.fnExactOneFateRow=true:=by
 unfold joinedFacts
 simp only [Bool.and_eq_true]
 repeat' (apply And.intro)
 all_goals first
  | with_reducible exact c2p
  | with_reducible exact c3k
  | with_reducible exact c3j
  | with_reducible exact c3i
  | with_reducible exact c3h
  | with_reducible exact z5All
  | with_reducible exact z6All
  | with_reducible exact z7All
  | with_reducible exact c3g
  | with_reducible exact z9All
  | with_reducible exact z10All
  | with_reducible exact b9s
  | kernel_rfl
theorem b8d:Tryz.f8.isInstance Tryz.prog Rows.fnExactOneFateRow.origin Rows.fnExactOneFateRow.targs:=of_decide_eq_true (by kernel_rfl)
theorem b6s:Tryz.f8.isWrapper Tryz.prog Rows.fnExactOneFateRow.wrapper Rows.fnExactOneFateRow.mainSum:=by
 unfold Func.isWrapper;first | (rw [if_pos (by decide +kernel)];kernel_rfl) | (rw [if_neg (by decide +kernel)];exact ⟨rfl,rfl⟩)
theorem b90:Rows.FnExactOneFateSaid:=
 OpenClaim.holds_of_wide 8 Tryz.f8 rfl rfl rfl rfl rfl rfl rfl ⟨rfl,rfl,rfl,rfl,rfl⟩ rfl rfl rfl rfl rfl z12OneFate Tryz.func8 b4h b8d b6s
  (fun os started H enc _=>b38 os started H enc)
theorem c3m:Rows.fnExactOneFateRow.wfByText (OpenSpec.ofChange Rows.fnExactOneFateSpec)=true:=by kernel_rfl
theorem c3l:false=Rows.fnExactOneFateRow.goesBy Tryz.prog:=by kernel_rfl
theorem oneFate_card:Rows.FnExactOneFateCardSaid:=
 Claim7.holds_tied_plain_at .later [] [.data,.data,.data,.sentinel,.sentinel] true (true, "2e2573802ff5d0b2756901822aa9ff57152d18fe02fe994b4a45ed53894a6ecc") true
  b90 (fun _ h=>by cases h) c3m (fun _ h=>by cases h) fnExactOneFate_row_tie rfl ⟨rfl,rfl⟩ y2All rfl
  (fun f fn hf hfn=>by
   obtain rfl:f=8:=Option.some.inj (z12OneFate.symm.trans hf) |>.symm
   obtain rfl:fn=Tryz.f8:=(Option.some.inj (Tryz.func8.symm.trans hfn)).symm
   exact ⟨y3All,fun j t ht=>by
    rw [a7l] at ht
    match j,ht with
    | 0,ht=>
     obtain rfl:30=t:=by simpa using ht
     exact (show Tryz.prog.wantsStandIn 30=false by kernel_rfl)
    | j+1,ht=>simp at ht⟩)
  c3l
end Go.Proofs.YtgdapgcjmfeocaaGreatDoor
end
