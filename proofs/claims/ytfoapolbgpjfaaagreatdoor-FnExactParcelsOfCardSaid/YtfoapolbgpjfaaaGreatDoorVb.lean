/- THE CARD OF 'laws.FnExactParcelsOf': for every input the call returns true, and each argument reads as it did; the listed variables of the library are tied to the program's text. MADE BY PROGRAM (gen_row.py). -/
import Derived.Test.YtfoapolbgpjfaaaGreatDoorFb
import Derived.Test.YtfoapolbgpjfaaaGreatDoorFt
import Derived.Test.YtfoapolbgpjfaaaGreatDoorTie
import Derived.Test.YtfoapolbgpjfaaaGreatDoorCards
import Derived.SevenTiedAt
import Derived.ChangeMaps5
set_option linter.unusedVariables false
set_option maxRecDepth 100000
section
namespace Go.Proofs.YtfoapolbgpjfaaaGreatDoor
open Go Go.ChangeMaps Go.ChangeShapes Go.WideShapes Go.ChangeAt Go.RowKit Go.PW Go.KP
theorem a3m:Tryz.f4.params=#[30]:=rfl
theorem a8f (os:Os) (started:os.Started) (H:Type) (enc:TypeId×Value→H) :
 ReturnsInHanded {} Tryz.checked os 4 .any (fun w args=>(Rows.fnExactParcelsOfSpec.pre enc Tryz.prog Tryz.f4 [] false w args∧laidMetH Tryz.prog c15 w)∧sizedMet enc Tryz.prog Tryz.f4 (OpenSpec.ofChange Rows.fnExactParcelsOfSpec) false w args)
  (Rows.fnExactParcelsOfSpec.post enc Tryz.prog Tryz.f4 false true false false):=by
 refine b02 (C:=Tryz.checked) (X:=fun w _=>laidMetH Tryz.prog c15 w) (fun _ _ _ hh h=>h.of_heap hh) own started (by kernel_rfl) Tryz.func4
  (ChangeSpec.witness_shaped (enc:=enc) (C:=Tryz.checked) (os:=os) (X:=fun w _=>laidMetH Tryz.prog c15 w) false (World.doorLaid Tryz.prog 4000 os) #[.agg #[.int .i64 0,.int .i64 0,.string ⟨#[]⟩,.string ⟨#[]⟩,.slice none 0 0,.string ⟨#[]⟩,.bool false]] 12 rfl (World.shaped_of_RefB (by kernel_rfl) (by kernel_rfl)) (by kernel_rfl) (by kernel_rfl) (by kernel_rfl) (c2t os _)) ?_
 intro W base args ds gs before hval0 hW hL hsh
 have hval:∀ (j:Nat) t v,Tryz.f4.params[j]?=some t→args[j]?=some v→Value.okWide Tryz.prog W .any base t v:=hval0
 have hW':=hW
 obtain ⟨p,q,hA0,hV,rfl,_,_⟩:=hW
 have hA:DataW.TrodAll enc Tryz.prog W 0 (fun _=>true) true Tryz.f4.params.toList args.toList ds p:=hA0
 rw [a3m] at hA hval
 obtain ⟨v0,d0,rfl,rfl,h0⟩:=trodAll_one hA
 obtain ⟨rfl,rfl⟩:=trodVars_none hV
 obtain ⟨a0,rfl,hz0⟩:=okWide_struct (fs:=_) Tryz.underlying30 (hval 0 30 v0 rfl rfl)
 obtain ⟨r0,hr0,hq0⟩:=arg_agg (n:=3) (by kernel_rfl) hz0 h0
 obtain ⟨x0,e0,b0⟩:=b9a (n:=0) hr0
 rw [← e0] at hq0
 obtain ⟨I,hg,hb⟩:=gh_of hL hsh
 have hlaw:=@b03 I x0 b0
 refine (c2y (v:=.bool true) hlaw (fun g hgg=>⟨fun h=>h,hg g hgg⟩) (fun g hgg=>⟨fun h=>h,hb g hgg⟩) (.cons _ _ _ _ [] [] (.val _ _ hq0) .nil) (fun L w u hu=>by cases hu;rfl)).mono fun e W' ⟨he,hbl⟩=>?_
 exact ⟨_,he,b9l b8o rfl Tryz.underlying4 rfl (by kernel_rfl) rfl hW' hbl⟩
theorem b3x:(Rows.fnExactParcelsOfRow.inPlace == Tryz.prog.inPlace 4)=true:=by kernel_rfl
theorem b3w:(Rows.fnExactParcelsOfRow.unfollowed == Tryz.prog.unfollowed 4)=true:=by kernel_rfl
theorem b3v:(Rows.fnExactParcelsOfRow.recurses == Tryz.prog.recurses 4)=true:=by kernel_rfl
theorem b3u:(Rows.fnExactParcelsOfRow.named == Tryz.prog.varsNamed 4)=true:=by kernel_rfl
theorem b3t:(Rows.fnExactParcelsOfRow.plainKeys == Tryz.prog.plainKeys)=true:=by rw [z8All];rfl
theorem b2d:(Rows.fnExactParcelsOfRow.lifted == Tryz.prog.liftsFinal)=true:=by rw [z11All];rfl
theorem z12ParcelsOf:Tryz.prog.funcNamed "loop.example/g00779/laws.FnExactParcelsOf" = some 4:=by kernel_rfl
theorem a8g:joinedFacts Tryz.prog 4 Tryz.f4 Rows.fnExactParcelsOfSpec Rows.fnExactParcelsOfRow=true:=by
 unfold joinedFacts
 simp only [Bool.and_eq_true]
 repeat' (apply And.intro)
 all_goals first
  | with_reducible exact b8o
  | with_reducible exact b3x
  | with_reducible exact b3w
  | with_reducible exact b3v
  | with_reducible exact b3u
  | with_reducible exact z5All
  | with_reducible exact z6All
  | with_reducible exact z7All
  | with_reducible exact b3t
  | with_reducible exact z9All
  | with_reducible exact z10All
  | with_reducible exact b2d
  | kernel_rfl
theorem b05:Tryz.f4.isInstance Tryz.prog Rows.fnExactParcelsOfRow.origin Rows.fnExactParcelsOfRow.targs:=of_decide_eq_true (by kernel_rfl)
theorem b0t:Tryz.f4.isWrapper Tryz.prog Rows.fnExactParcelsOfRow.wrapper Rows.fnExactParcelsOfRow.mainSum:=by
 unfold Func.isWrapper;first | (rw [if_pos (by decide +kernel)];kernel_rfl) | (rw [if_neg (by decide +kernel)];exact ⟨rfl,rfl⟩)
theorem b2j:Rows.FnExactParcelsOfSaid:=
 OpenClaim.holds_of_wide 4 Tryz.f4 rfl rfl rfl rfl rfl rfl rfl ⟨rfl,rfl,rfl,rfl,rfl⟩ rfl rfl rfl rfl rfl z12ParcelsOf Tryz.func4 a8g b05 b0t
  (fun os started H enc _=>a8f os started H enc)
theorem b3z:Rows.fnExactParcelsOfRow.wfByText (OpenSpec.ofChange Rows.fnExactParcelsOfSpec)=true:=by kernel_rfl
theorem b3y:false=Rows.fnExactParcelsOfRow.goesBy Tryz.prog:=by kernel_rfl
theorem parcelsOf_card:Rows.FnExactParcelsOfCardSaid:=
 Claim7.holds_tied_plain_at .later [] [.data,.data,.data,.sentinel,.sentinel] true (true, "ac77757cf8e36a121016858653550d99e632a575f00785e5295a67301b5b6646") true
  b2j (fun _ h=>by cases h) b3z (fun _ h=>by cases h) fnExactParcelsOf_row_tie rfl ⟨rfl,rfl⟩ y2All rfl
  (fun f fn hf hfn=>by
   obtain rfl:f=4:=Option.some.inj (z12ParcelsOf.symm.trans hf) |>.symm
   obtain rfl:fn=Tryz.f4:=(Option.some.inj (Tryz.func4.symm.trans hfn)).symm
   exact ⟨y3All,fun j t ht=>by
    rw [a3m] at ht
    match j,ht with
    | 0,ht=>
     obtain rfl:30=t:=by simpa using ht
     exact (show Tryz.prog.wantsStandIn 30=false by kernel_rfl)
    | j+1,ht=>simp at ht⟩)
  b3y
end Go.Proofs.YtfoapolbgpjfaaaGreatDoor
end
