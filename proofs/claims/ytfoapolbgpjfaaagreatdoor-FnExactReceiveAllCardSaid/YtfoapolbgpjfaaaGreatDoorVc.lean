/- THE CARD OF 'laws.FnExactReceiveAll': for every input the call returns true, and each argument reads as it did; the listed variables of the library are tied to the program's text. MADE BY PROGRAM (gen_row.py). -/
import Derived.Test.YtfoapolbgpjfaaaGreatDoorFb
import Derived.Test.YtfoapolbgpjfaaaGreatDoorFw
import Derived.Test.YtfoapolbgpjfaaaGreatDoorFs
import Derived.Test.YtfoapolbgpjfaaaGreatDoorTie
import Derived.Test.YtfoapolbgpjfaaaGreatDoorCards
import Derived.SevenTiedAt
import Derived.ChangeMaps5
set_option linter.unusedVariables false
set_option maxRecDepth 100000
section
namespace Go.Proofs.YtfoapolbgpjfaaaGreatDoor
open Go Go.ChangeMaps Go.ChangeShapes Go.WideShapes Go.ChangeAt Go.RowKit Go.PW Go.KP
theorem a3t:Tryz.f5.params=#[38]:=rfl
theorem a82 (os:Os) (started:os.Started) (H:Type) (enc:TypeId×Value→H) :
 ReturnsInHanded {} Tryz.checked os 5 .any (fun w args=>(Rows.fnExactReceiveAllSpec.pre enc Tryz.prog Tryz.f5 [] false w args∧laidMetH Tryz.prog c4n w)∧sizedMet enc Tryz.prog Tryz.f5 (OpenSpec.ofChange Rows.fnExactReceiveAllSpec) false w args)
  (Rows.fnExactReceiveAllSpec.post enc Tryz.prog Tryz.f5 false true false false):=by
 refine b2u (C:=Tryz.checked) (X:=fun w _=>laidMetH Tryz.prog c4n w) (fun _ _ _ hh h=>h.of_heap hh) own started (by kernel_rfl) Tryz.func5
  (ChangeSpec.witness_shaped (enc:=enc) (C:=Tryz.checked) (os:=os) (X:=fun w _=>laidMetH Tryz.prog c4n w) false (World.doorLaid Tryz.prog 4000 os) #[.slice none 0 0] 12 rfl (World.shaped_of_RefB (by kernel_rfl) (by kernel_rfl)) (by kernel_rfl) (by kernel_rfl) (by kernel_rfl) (c5b os _)) ?_
 intro W base args ds gs before hval0 hW hL hsh
 have hval:∀ (j:Nat) t v,Tryz.f5.params[j]?=some t→args[j]?=some v→Value.okWide Tryz.prog W .any base t v:=hval0
 have hW':=hW
 obtain ⟨p,q,hA0,hV,rfl,_,_⟩:=hW
 have hA:DataW.TrodAll enc Tryz.prog W 0 (fun _=>true) true Tryz.f5.params.toList args.toList ds p:=hA0
 rw [a3t] at hA hval
 obtain ⟨v0,d0,rfl,rfl,h0⟩:=trodAll_one hA
 obtain ⟨rfl,rfl⟩:=trodVars_none hV
 obtain ⟨a0,len0,cap0,rfl⟩:=okWide_slice Tryz.underlying38 (hval 0 38 v0 rfl rfl)
 obtain ⟨r0,hr0,hq0⟩:=c5z (n:=4) (by kernel_rfl) (by kernel_rfl) rfl h0
 obtain ⟨x0,e0,b0⟩:=b5u (n:=0) hr0
 obtain rfl:=(List.cons.inj e0).1
 obtain ⟨I,hg,hb⟩:=gh_of hL hsh
 have hlaw:=@b1b I x0 b0.1 b0.2
 refine (c5h (v:=.bool true) hlaw (fun g hgg=>⟨fun h=>h,hg g hgg⟩) (fun g hgg=>⟨fun h=>h,hb g hgg⟩) (.cons _ _ _ _ [] [] (.val _ _ hq0) .nil) (fun L w u hu=>by cases hu;rfl)).mono fun e W' ⟨he,hbl⟩=>?_
 exact ⟨_,he,c1t c0w rfl Tryz.underlying4 rfl (by kernel_rfl) rfl hW' hbl⟩
theorem b4c:(Rows.fnExactReceiveAllRow.inPlace == Tryz.prog.inPlace 5)=true:=by kernel_rfl
theorem b4b:(Rows.fnExactReceiveAllRow.unfollowed == Tryz.prog.unfollowed 5)=true:=by kernel_rfl
theorem b4a:(Rows.fnExactReceiveAllRow.recurses == Tryz.prog.recurses 5)=true:=by kernel_rfl
theorem b39:(Rows.fnExactReceiveAllRow.named == Tryz.prog.varsNamed 5)=true:=by kernel_rfl
theorem b38:(Rows.fnExactReceiveAllRow.plainKeys == Tryz.prog.plainKeys)=true:=by rw [z8All];rfl
theorem b2k:(Rows.fnExactReceiveAllRow.lifted == Tryz.prog.liftsFinal)=true:=by rw [z11All];rfl
theorem z12ReceiveAll:Tryz.prog.funcNamed "loop.example/g00779/laws.FnExactReceiveAll" = some 5:=by kernel_rfl
theorem a89:joinedFacts Tryz.prog 5 Tryz.f5 Rows.fnExactReceiveAllSpec Rows.fnExactReceiveAllRow=true:=by
 unfold joinedFacts
 simp only [Bool.and_eq_true]
 repeat' (apply And.intro)
 all_goals first
  | with_reducible exact c0w
  | with_reducible exact b4c
  | with_reducible exact b4b
  | with_reducible exact b4a
  | with_reducible exact b39
  | with_reducible exact z5All
  | with_reducible exact z6All
  | with_reducible exact z7All
  | with_reducible exact b38
  | with_reducible exact z9All
  | with_reducible exact z10All
  | with_reducible exact b2k
  | kernel_rfl
theorem b1k:Tryz.f5.isInstance Tryz.prog Rows.fnExactReceiveAllRow.origin Rows.fnExactReceiveAllRow.targs:=of_decide_eq_true (by kernel_rfl)
theorem b0c:Tryz.f5.isWrapper Tryz.prog Rows.fnExactReceiveAllRow.wrapper Rows.fnExactReceiveAllRow.mainSum:=by
 unfold Func.isWrapper;first | (rw [if_pos (by decide +kernel)];kernel_rfl) | (rw [if_neg (by decide +kernel)];exact ⟨rfl,rfl⟩)
theorem b2m:Rows.FnExactReceiveAllSaid:=
 OpenClaim.holds_of_wide 5 Tryz.f5 rfl rfl rfl rfl rfl rfl rfl ⟨rfl,rfl,rfl,rfl,rfl⟩ rfl rfl rfl rfl rfl z12ReceiveAll Tryz.func5 a89 b1k b0c
  (fun os started H enc _=>a82 os started H enc)
theorem b4g:Rows.fnExactReceiveAllRow.wfByText (OpenSpec.ofChange Rows.fnExactReceiveAllSpec)=true:=by kernel_rfl
theorem b4f:false=Rows.fnExactReceiveAllRow.goesBy Tryz.prog:=by kernel_rfl
theorem receiveAll_card:Rows.FnExactReceiveAllCardSaid:=
 Claim7.holds_tied_plain_at .later [] [.data,.data,.data,.sentinel,.sentinel] true (true, "ac77757cf8e36a121016858653550d99e632a575f00785e5295a67301b5b6646") true
  b2m (fun _ h=>by cases h) b4g (fun _ h=>by cases h) fnExactReceiveAll_row_tie rfl ⟨rfl,rfl⟩ y2All rfl
  (fun f fn hf hfn=>by
   obtain rfl:f=5:=Option.some.inj (z12ReceiveAll.symm.trans hf) |>.symm
   obtain rfl:fn=Tryz.f5:=(Option.some.inj (Tryz.func5.symm.trans hfn)).symm
   exact ⟨y3All,fun j t ht=>by
    rw [a3t] at ht
    match j,ht with
    | 0,ht=>
     obtain rfl:38=t:=by simpa using ht
     exact (show Tryz.prog.wantsStandIn 38=false by kernel_rfl)
    | j+1,ht=>simp at ht⟩)
  b4f
end Go.Proofs.YtfoapolbgpjfaaaGreatDoor
end
