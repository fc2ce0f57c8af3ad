/- THE CARD OF 'laws.FnExactBodyOf': for every input the call returns true, and each argument reads as it did; the listed variables of the library are tied to the program's text. MADE BY PROGRAM (gen_row.py). -/
import Derived.Test.YtfoapolbgpjfaaaGreatDoorFb
import Derived.Test.YtfoapolbgpjfaaaGreatDoorFy
import Derived.Test.YtfoapolbgpjfaaaGreatDoorTie
import Derived.Test.YtfoapolbgpjfaaaGreatDoorCards
import Derived.SevenTiedAt
import Derived.ChangeMaps5
set_option linter.unusedVariables false
set_option maxRecDepth 100000
section
namespace Go.Proofs.YtfoapolbgpjfaaaGreatDoor
open Go Go.ChangeMaps Go.ChangeShapes Go.WideShapes Go.ChangeAt Go.RowKit Go.PW Go.KP
theorem a5c:Tryz.f10.params=#[77]:=rfl
theorem b1e (os:Os) (started:os.Started) (H:Type) (enc:TypeId×Value→H) :
 ReturnsInHanded {} Tryz.checked os 10 .any (fun w args=>(Rows.fnExactBodyOfSpec.pre enc Tryz.prog Tryz.f10 [] false w args∧laidMetH Tryz.prog b8r w)∧sizedMet enc Tryz.prog Tryz.f10 (OpenSpec.ofChange Rows.fnExactBodyOfSpec) false w args)
  (Rows.fnExactBodyOfSpec.post enc Tryz.prog Tryz.f10 false true false false):=by
 refine a9r (C:=Tryz.checked) (X:=fun w _=>laidMetH Tryz.prog b8r w) (fun _ _ _ hh h=>h.of_heap hh) own started (by kernel_rfl) Tryz.func10
  (ChangeSpec.witness_shaped (enc:=enc) (C:=Tryz.checked) (os:=os) (X:=fun w _=>laidMetH Tryz.prog b8r w) false (World.doorLaid Tryz.prog 4000 os) #[.agg #[.string ⟨#[]⟩,.string ⟨#[]⟩,.string ⟨#[]⟩,.string ⟨#[]⟩,.string ⟨#[]⟩,.string ⟨#[]⟩,.int .i64 0,.int .i64 0,.bool false]] 12 rfl (World.shaped_of_RefB (by kernel_rfl) (by kernel_rfl)) (by kernel_rfl) (by kernel_rfl) (by kernel_rfl) (b87 os _)) ?_
 intro W base args ds gs before hval0 hW hL hsh
 have hval:∀ (j:Nat) t v,Tryz.f10.params[j]?=some t→args[j]?=some v→Value.okWide Tryz.prog W .any base t v:=hval0
 have hW':=hW
 obtain ⟨p,q,hA0,hV,rfl,_,_⟩:=hW
 have hA:DataW.TrodAll enc Tryz.prog W 0 (fun _=>true) true Tryz.f10.params.toList args.toList ds p:=hA0
 rw [a5c] at hA hval
 obtain ⟨v0,d0,rfl,rfl,h0⟩:=trodAll_one hA
 obtain ⟨rfl,rfl⟩:=trodVars_none hV
 obtain ⟨a0,rfl,hz0⟩:=okWide_struct (fs:=_) Tryz.underlying77 (hval 0 77 v0 rfl rfl)
 obtain ⟨r0,hr0,hq0⟩:=arg_agg (n:=2) (by kernel_rfl) hz0 h0
 obtain ⟨x0,e0,b0⟩:=a7q (n:=0) hr0
 rw [← e0] at hq0
 obtain ⟨I,hg,hb⟩:=gh_of hL hsh
 have hlaw:=@b4m I x0 b0
 refine (b9b (v:=.bool true) hlaw (fun g hgg=>⟨fun h=>h,hg g hgg⟩) (fun g hgg=>⟨fun h=>h,hb g hgg⟩) (.cons _ _ _ _ [] [] (.val _ _ hq0) .nil) (fun L w u hu=>by cases hu;rfl)).mono fun e W' ⟨he,hbl⟩=>?_
 exact ⟨_,he,b6q b51 rfl Tryz.underlying4 rfl (by kernel_rfl) rfl hW' hbl⟩
theorem b7s:(Rows.fnExactBodyOfRow.inPlace == Tryz.prog.inPlace 10)=true:=by kernel_rfl
theorem b7r:(Rows.fnExactBodyOfRow.unfollowed == Tryz.prog.unfollowed 10)=true:=by kernel_rfl
theorem b7q:(Rows.fnExactBodyOfRow.recurses == Tryz.prog.recurses 10)=true:=by kernel_rfl
theorem b7p:(Rows.fnExactBodyOfRow.named == Tryz.prog.varsNamed 10)=true:=by kernel_rfl
theorem b7o:(Rows.fnExactBodyOfRow.plainKeys == Tryz.prog.plainKeys)=true:=by rw [z8All];rfl
theorem b6h:(Rows.fnExactBodyOfRow.lifted == Tryz.prog.liftsFinal)=true:=by rw [z11All];rfl
theorem z12BodyOf:Tryz.prog.funcNamed "loop.example/g00779/laws.FnExactBodyOf" = some 10:=by kernel_rfl
theorem b1q:joinedFacts Tryz.prog 10 Tryz.f10 Rows.fnExactBodyOfSpec Rows.fnExactBodyOfRow=true:=by
 unfold joinedFacts
 simp only [Bool.and_eq_true]
 repeat' (apply And.intro)
 all_goals first
  | with_reducible exact b51
  | with_reducible exact b7s
  | with_reducible exact b7r
  | with_reducible exact b7q
  | with_reducible exact b7p
  | with_reducible exact z5All
  | with_reducible exact z6All
  | with_reducible exact z7All
  | with_reducible exact b7o
  | with_reducible exact z9All
  | with_reducible exact z10All
  | with_reducible exact b6h
  | kernel_rfl
theorem b4r:Tryz.f10.isInstance Tryz.prog Rows.fnExactBodyOfRow.origin Rows.fnExactBodyOfRow.targs:=of_decide_eq_true (by kernel_rfl)
theorem b3r:Tryz.f10.isWrapper Tryz.prog Rows.fnExactBodyOfRow.wrapper Rows.fnExactBodyOfRow.mainSum:=by
 unfold Func.isWrapper;first | (rw [if_pos (by decide +kernel)];kernel_rfl) | (rw [if_neg (by decide +kernel)];exact ⟨rfl,rfl⟩)
theorem b6p:Rows.FnExactBodyOfSaid:=
 OpenClaim.holds_of_wide 10 Tryz.f10 rfl rfl rfl rfl rfl rfl rfl ⟨rfl,rfl,rfl,rfl,rfl⟩ rfl rfl rfl rfl rfl z12BodyOf Tryz.func10 b1q b4r b3r
  (fun os started H enc _=>b1e os started H enc)
theorem b7u:Rows.fnExactBodyOfRow.wfByText (OpenSpec.ofChange Rows.fnExactBodyOfSpec)=true:=by kernel_rfl
theorem b7t:false=Rows.fnExactBodyOfRow.goesBy Tryz.prog:=by kernel_rfl
theorem bodyOf_card:Rows.FnExactBodyOfCardSaid:=
 Claim7.holds_tied_plain_at .later [] [.data,.data,.data,.sentinel,.sentinel] true (true, "ac77757cf8e36a121016858653550d99e632a575f00785e5295a67301b5b6646") true
  b6p (fun _ h=>by cases h) b7u (fun _ h=>by cases h) fnExactBodyOf_row_tie rfl ⟨rfl,rfl⟩ y2All rfl
  (fun f fn hf hfn=>by
   obtain rfl:f=10:=Option.some.inj (z12BodyOf.symm.trans hf) |>.symm
   obtain rfl:fn=Tryz.f10:=(Option.some.inj (Tryz.func10.symm.trans hfn)).symm
   exact ⟨y3All,fun j t ht=>by
    rw [a5c] at ht
    match j,ht with
    | 0,ht=>
     obtain rfl:77=t:=by simpa using ht
     exact (show Tryz.prog.wantsStandIn 77=false by kernel_rfl)
    | j+1,ht=>simp at ht⟩)
  b7t
end Go.Proofs.YtfoapolbgpjfaaaGreatDoor
end
