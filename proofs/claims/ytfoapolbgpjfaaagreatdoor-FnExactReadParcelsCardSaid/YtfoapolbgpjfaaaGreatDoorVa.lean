/- THE CARD OF 'laws.FnExactReadParcels': for every input the call returns true, and each argument reads as it did; the listed variables of the library are tied to the program's text. MADE BY PROGRAM (gen_row.py). -/
import Derived.Test.YtfoapolbgpjfaaaGreatDoorFb
import Derived.Test.YtfoapolbgpjfaaaGreatDoorFs
import Derived.Test.YtfoapolbgpjfaaaGreatDoorTie
import Derived.Test.YtfoapolbgpjfaaaGreatDoorCards
import Derived.SevenTiedAt
import Derived.ChangeMaps5
set_option linter.unusedVariables false
set_option maxRecDepth 100000
section
namespace Go.Proofs.YtfoapolbgpjfaaaGreatDoor
open Go Go.ChangeMaps Go.ChangeShapes Go.WideShapes Go.ChangeAt Go.RowKit Go.PW Go.KP
theorem a1r:Tryz.f3.params=#[9]:=rfl
theorem a5g (os:Os) (started:os.Started) (H:Type) (enc:TypeId×Value→H) :
 ReturnsInHanded {} Tryz.checked os 3 .any (fun w args=>(Rows.fnExactReadParcelsSpec.pre enc Tryz.prog Tryz.f3 [] false w args∧laidMetH Tryz.prog b9a w)∧sizedMet enc Tryz.prog Tryz.f3 (OpenSpec.ofChange Rows.fnExactReadParcelsSpec) false w args)
  (Rows.fnExactReadParcelsSpec.post enc Tryz.prog Tryz.f3 false true false false):=by
 refine a9w (C:=Tryz.checked) (X:=fun w _=>laidMetH Tryz.prog b9a w) (fun _ _ _ hh h=>h.of_heap hh) own started (by kernel_rfl) Tryz.func3
  (ChangeSpec.witness_shaped (enc:=enc) (C:=Tryz.checked) (os:=os) (X:=fun w _=>laidMetH Tryz.prog b9a w) false (World.doorLaid Tryz.prog 4000 os) #[.string ⟨#[]⟩] 12 rfl (World.shaped_of_RefB (by kernel_rfl) (by kernel_rfl)) (by kernel_rfl) (by kernel_rfl) (by kernel_rfl) (b9r os _)) ?_
 intro W base args ds gs before hval0 hW hL hsh
 have hval:∀ (j:Nat) t v,Tryz.f3.params[j]?=some t→args[j]?=some v→Value.okWide Tryz.prog W .any base t v:=hval0
 have hW':=hW
 obtain ⟨p,q,hA0,hV,rfl,_,_⟩:=hW
 have hA:DataW.TrodAll enc Tryz.prog W 0 (fun _=>true) true Tryz.f3.params.toList args.toList ds p:=hA0
 rw [a1r] at hA hval
 obtain ⟨v0,d0,rfl,rfl,h0⟩:=trodAll_one hA
 obtain ⟨rfl,rfl⟩:=trodVars_none hV
 obtain ⟨y0,rfl,rfl,rfl,hl0⟩:=open_string Tryz.underlying9 (hval 0 9 v0 rfl rfl) h0
 obtain ⟨x0,hx0⟩:∃ x:Tx,y0=bs x:=⟨_,(bs_eta y0).symm⟩
 subst hx0
 have b0:x0.length≤maxLen:=by rw [a8] at hl0;exact hl0
 obtain ⟨I,hg,hb⟩:=gh_of hL hsh
 have hlaw:=@a68 I x0 b0
 refine (b9v (v:=.bool true) hlaw (fun g hgg=>⟨fun h=>h,hg g hgg⟩) (fun g hgg=>⟨fun h=>h,hb g hgg⟩) (.cons _ _ _ _ [] [] (.val _ _ (.str _)) .nil) (fun L w u hu=>by cases hu;rfl)).mono fun e W' ⟨he,hbl⟩=>?_
 exact ⟨_,he,b6z b58 rfl Tryz.underlying4 rfl (by kernel_rfl) rfl hW' hbl⟩
theorem a9m:(Rows.fnExactReadParcelsRow.inPlace == Tryz.prog.inPlace 3)=true:=by kernel_rfl
theorem a9l:(Rows.fnExactReadParcelsRow.unfollowed == Tryz.prog.unfollowed 3)=true:=by kernel_rfl
theorem a9k:(Rows.fnExactReadParcelsRow.recurses == Tryz.prog.recurses 3)=true:=by kernel_rfl
theorem a9j:(Rows.fnExactReadParcelsRow.named == Tryz.prog.varsNamed 3)=true:=by kernel_rfl
theorem a9i:(Rows.fnExactReadParcelsRow.plainKeys == Tryz.prog.plainKeys)=true:=by rw [z8All];rfl
theorem a7l:(Rows.fnExactReadParcelsRow.lifted == Tryz.prog.liftsFinal)=true:=by rw [z11All];rfl
theorem z12ReadParcels:Tryz.prog.funcNamed "loop.example/g00779/laws.FnExactReadParcels" = some 3:=by kernel_rfl
theorem a5s:joinedFacts Tryz.prog 3 Tryz.f3 Rows.fnExactReadParcelsSpec Rows.fnExactReadParcelsRow=true:=by
 unfold joinedFacts
 simp only [Bool.and_eq_true]
 repeat' (apply And.intro)
 all_goals first
  | with_reducible exact b58
  | with_reducible exact a9m
  | with_reducible exact a9l
  | with_reducible exact a9k
  | with_reducible exact a9j
  | with_reducible exact z5All
  | with_reducible exact z6All
  | with_reducible exact z7All
  | with_reducible exact a9i
  | with_reducible exact z9All
  | with_reducible exact z10All
  | with_reducible exact a7l
  | kernel_rfl
theorem a69:Tryz.f3.isInstance Tryz.prog Rows.fnExactReadParcelsRow.origin Rows.fnExactReadParcelsRow.targs:=of_decide_eq_true (by kernel_rfl)
theorem a65:Tryz.f3.isWrapper Tryz.prog Rows.fnExactReadParcelsRow.wrapper Rows.fnExactReadParcelsRow.mainSum:=by
 unfold Func.isWrapper;first | (rw [if_pos (by decide +kernel)];kernel_rfl) | (rw [if_neg (by decide +kernel)];exact ⟨rfl,rfl⟩)
theorem a71:Rows.FnExactReadParcelsSaid:=
 OpenClaim.holds_of_wide 3 Tryz.f3 rfl rfl rfl rfl rfl rfl rfl ⟨rfl,rfl,rfl,rfl,rfl⟩ rfl rfl rfl rfl rfl z12ReadParcels Tryz.func3 a5s a69 a65
  (fun os started H enc _=>a5g os started H enc)
theorem a9o:Rows.fnExactReadParcelsRow.wfByText (OpenSpec.ofChange Rows.fnExactReadParcelsSpec)=true:=by kernel_rfl
theorem a9n:false=Rows.fnExactReadParcelsRow.goesBy Tryz.prog:=by kernel_rfl
theorem readParcels_card:Rows.FnExactReadParcelsCardSaid:=
 Claim7.holds_tied_plain_at .later [] [.data,.data,.data,.sentinel,.sentinel] true (true, "ac77757cf8e36a121016858653550d99e632a575f00785e5295a67301b5b6646") true
  a71 (fun _ h=>by cases h) a9o (fun _ h=>by cases h) fnExactReadParcels_row_tie rfl ⟨rfl,rfl⟩ y2All rfl
  (fun f fn hf hfn=>by
   obtain rfl:f=3:=Option.some.inj (z12ReadParcels.symm.trans hf) |>.symm
   obtain rfl:fn=Tryz.f3:=(Option.some.inj (Tryz.func3.symm.trans hfn)).symm
   exact ⟨y3All,fun j t ht=>by
    rw [a1r] at ht
    match j,ht with
    | 0,ht=>
     obtain rfl:9=t:=by simpa using ht
     exact (show Tryz.prog.wantsStandIn 9=false by kernel_rfl)
    | j+1,ht=>simp at ht⟩)
  a9n
end Go.Proofs.YtfoapolbgpjfaaaGreatDoor
end
