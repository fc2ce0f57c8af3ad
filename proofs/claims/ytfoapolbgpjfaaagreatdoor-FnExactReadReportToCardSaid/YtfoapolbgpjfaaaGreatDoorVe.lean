/- THE CARD OF 'laws.FnExactReadReportTo': for every input the call returns true, and each argument reads as it did; the listed variables of the library are tied to the program's text. MADE BY PROGRAM (gen_row.py). -/
import Derived.Test.YtfoapolbgpjfaaaGreatDoorFb
import Derived.Test.YtfoapolbgpjfaaaGreatDoorFx
import Derived.Test.YtfoapolbgpjfaaaGreatDoorTie
import Derived.Test.YtfoapolbgpjfaaaGreatDoorCards
import Derived.SevenTiedAt
import Derived.ChangeMaps5
set_option linter.unusedVariables false
set_option maxRecDepth 100000
section
namespace Go.Proofs.YtfoapolbgpjfaaaGreatDoor
open Go Go.ChangeMaps Go.ChangeShapes Go.WideShapes Go.ChangeAt Go.RowKit Go.PW Go.KP
theorem a3b:Tryz.f9.params=#[9]:=rfl
theorem a69 (os:Os) (started:os.Started) (H:Type) (enc:TypeId×Value→H) :
 ReturnsInHanded {} Tryz.checked os 9 .any (fun w args=>(Rows.fnExactReadReportToSpec.pre enc Tryz.prog Tryz.f9 [] false w args∧laidMetH Tryz.prog c4d w)∧sizedMet enc Tryz.prog Tryz.f9 (OpenSpec.ofChange Rows.fnExactReadReportToSpec) false w args)
  (Rows.fnExactReadReportToSpec.post enc Tryz.prog Tryz.f9 false true false false):=by
 refine b25 (C:=Tryz.checked) (X:=fun w _=>laidMetH Tryz.prog c4d w) (fun _ _ _ hh h=>h.of_heap hh) own started (by kernel_rfl) Tryz.func9
  (ChangeSpec.witness_shaped (enc:=enc) (C:=Tryz.checked) (os:=os) (X:=fun w _=>laidMetH Tryz.prog c4d w) false (World.doorLaid Tryz.prog 4000 os) #[.string ⟨#[]⟩] 12 rfl (World.shaped_of_RefB (by kernel_rfl) (by kernel_rfl)) (by kernel_rfl) (by kernel_rfl) (by kernel_rfl) (c45 os _)) ?_
 intro W base args ds gs before hval0 hW hL hsh
 have hval:∀ (j:Nat) t v,Tryz.f9.params[j]?=some t→args[j]?=some v→Value.okWide Tryz.prog W .any base t v:=hval0
 have hW':=hW
 obtain ⟨p,q,hA0,hV,rfl,_,_⟩:=hW
 have hA:DataW.TrodAll enc Tryz.prog W 0 (fun _=>true) true Tryz.f9.params.toList args.toList ds p:=hA0
 rw [a3b] at hA hval
 obtain ⟨v0,d0,rfl,rfl,h0⟩:=trodAll_one hA
 obtain ⟨rfl,rfl⟩:=trodVars_none hV
 obtain ⟨y0,rfl,rfl,rfl,hl0⟩:=open_string Tryz.underlying9 (hval 0 9 v0 rfl rfl) h0
 obtain ⟨x0,hx0⟩:∃ x:Tx,y0=bs x:=⟨_,(bs_eta y0).symm⟩
 subst hx0
 have b0:x0.length≤maxLen:=by rw [b7] at hl0;exact hl0
 obtain ⟨I,hg,hb⟩:=gh_of hL hsh
 have hlaw:=@a8x I x0 b0
 refine (c5b (v:=.bool true) hlaw (fun g hgg=>⟨fun h=>h,hg g hgg⟩) (fun g hgg=>⟨fun h=>h,hb g hgg⟩) (.cons _ _ _ _ [] [] (.val _ _ (.str _)) .nil) (fun L w u hu=>by cases hu;rfl)).mono fun e W' ⟨he,hbl⟩=>?_
 exact ⟨_,he,c1o c0u rfl Tryz.underlying4 rfl (by kernel_rfl) rfl hW' hbl⟩
theorem b0u:(Rows.fnExactReadReportToRow.inPlace == Tryz.prog.inPlace 9)=true:=by kernel_rfl
theorem b0t:(Rows.fnExactReadReportToRow.unfollowed == Tryz.prog.unfollowed 9)=true:=by kernel_rfl
theorem b0s:(Rows.fnExactReadReportToRow.recurses == Tryz.prog.recurses 9)=true:=by kernel_rfl
theorem b0r:(Rows.fnExactReadReportToRow.named == Tryz.prog.varsNamed 9)=true:=by kernel_rfl
theorem b0q:(Rows.fnExactReadReportToRow.plainKeys == Tryz.prog.plainKeys)=true:=by rw [z8All];rfl
theorem a97:(Rows.fnExactReadReportToRow.lifted == Tryz.prog.liftsFinal)=true:=by rw [z11All];rfl
theorem z12ReadReportTo:Tryz.prog.funcNamed "loop.example/g00779/laws.FnExactReadReportTo" = some 9:=by kernel_rfl
theorem a7h:joinedFacts Tryz.prog 9 Tryz.f9 Rows.fnExactReadReportToSpec Rows.fnExactReadReportToRow=true:=by
 unfold joinedFacts
 simp only [Bool.and_eq_true]
 repeat' (apply And.intro)
 all_goals first
  | with_reducible exact c0u
  | with_reducible exact b0u
  | with_reducible exact b0t
  | with_reducible exact b0s
  | with_reducible exact b0r
  | with_reducible exact z5All
  | with_reducible exact z6All
  | with_reducible exact z7All
  | with_reducible exact b0q
  | with_reducible exact z9All
  | with_reducible exact z10All
  | with_reducible exact a97
  | kernel_rfl
theorem a87:Tryz.f9.isInstance Tryz.prog Rows.fnExactReadReportToRow.origin Rows.fnExactReadReportToRow.targs:=of_decide_eq_true (by kernel_rfl)
theorem a8k:Tryz.f9.isWrapper Tryz.prog Rows.fnExactReadReportToRow.wrapper Rows.fnExactReadReportToRow.mainSum:=by
 unfold Func.isWrapper;first | (rw [if_pos (by decide +kernel)];kernel_rfl) | (rw [if_neg (by decide +kernel)];exact ⟨rfl,rfl⟩)
theorem b0a:Rows.FnExactReadReportToSaid:=
 OpenClaim.holds_of_wide 9 Tryz.f9 rfl rfl rfl rfl rfl rfl rfl ⟨rfl,rfl,rfl,rfl,rfl⟩ rfl rfl rfl rfl rfl z12ReadReportTo Tryz.func9 a7h a87 a8k
  (fun os started H enc _=>a69 os started H enc)
theorem b0w:Rows.fnExactReadReportToRow.wfByText (OpenSpec.ofChange Rows.fnExactReadReportToSpec)=true:=by kernel_rfl
theorem b0v:false=Rows.fnExactReadReportToRow.goesBy Tryz.prog:=by kernel_rfl
theorem readReportTo_card:Rows.FnExactReadReportToCardSaid:=
 Claim7.holds_tied_plain_at .later [] [.data,.data,.data,.sentinel,.sentinel] true (true, "ac77757cf8e36a121016858653550d99e632a575f00785e5295a67301b5b6646") true
  b0a (fun _ h=>by cases h) b0w (fun _ h=>by cases h) fnExactReadReportTo_row_tie rfl ⟨rfl,rfl⟩ y2All rfl
  (fun f fn hf hfn=>by
   obtain rfl:f=9:=Option.some.inj (z12ReadReportTo.symm.trans hf) |>.symm
   obtain rfl:fn=Tryz.f9:=(Option.some.inj (Tryz.func9.symm.trans hfn)).symm
   exact ⟨y3All,fun j t ht=>by
    rw [a3b] at ht
    match j,ht with
    | 0,ht=>
     obtain rfl:9=t:=by simpa using ht
     exact (show Tryz.prog.wantsStandIn 9=false by kernel_rfl)
    | j+1,ht=>simp at ht⟩)
  b0v
end Go.Proofs.YtfoapolbgpjfaaaGreatDoor
end
