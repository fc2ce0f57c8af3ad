/- THE CARD OF 'laws.FnExactReceive': for every input the call returns true, and each argument reads as it did; the listed variables of the library are tied to the program's text. MADE BY PROGRAM (gen_row.py). -/
import Derived.Test.YtfoapolbgpjfaaaGreatDoorFb
import Derived.Test.YtfoapolbgpjfaaaGreatDoorFw
import Derived.Test.YtfoapolbgpjfaaaGreatDoorFs
import Derived.Test.YtfoapolbgpjfaaaGreatDoorTie
import Derived.Test.YtfoapolbgpjfaaaGreatDoorCards
import Derived.SevenTiedAt
import Derived.ChangeMaps5
set_option linter.unusedVariables false
set_option maxRecDepth 100000
section
namespace Go.Proofs.YtfoapolbgpjfaaaGreatDoor
open Go Go.ChangeMaps Go.ChangeShapes Go.WideShapes Go.ChangeAt Go.RowKit Go.PW Go.KP
theorem a6n:Tryz.f6.params=#[52,30]:=rfl
theorem b2t (os:Os) (started:os.Started) (H:Type) (enc:TypeId×Value→H) :
 ReturnsInHanded {} Tryz.checked os 6 .any (fun w args=>(Rows.fnExactReceiveSpec.pre enc Tryz.prog Tryz.f6 [] false w args∧laidMetH Tryz.prog c4t w)∧sizedMet enc Tryz.prog Tryz.f6 (OpenSpec.ofChange Rows.fnExactReceiveSpec) false w args)
  (Rows.fnExactReceiveSpec.post enc Tryz.prog Tryz.f6 false true false false):=by
 refine b2s (C:=Tryz.checked) (X:=fun w _=>laidMetH Tryz.prog c4t w) (fun _ _ _ hh h=>h.of_heap hh) own started (by kernel_rfl) Tryz.func6
  (ChangeSpec.witness_shaped (enc:=enc) (C:=Tryz.checked) (os:=os) (X:=fun w _=>laidMetH Tryz.prog c4t w) false (World.doorLaid Tryz.prog 4000 os) #[.agg #[.slice none 0 0,.slice none 0 0,.slice none 0 0],.agg #[.int .i64 0,.int .i64 0,.string ⟨#[]⟩,.string ⟨#[]⟩,.slice none 0 0,.string ⟨#[]⟩,.bool false]] 12 rfl (World.shaped_of_RefB (by kernel_rfl) (by kernel_rfl)) (by kernel_rfl) (by kernel_rfl) (by kernel_rfl) (c5i os _)) ?_
 intro W base args ds gs before hval0 hW hL hsh
 have hval:∀ (j:Nat) t v,Tryz.f6.params[j]?=some t→args[j]?=some v→Value.okWide Tryz.prog W .any base t v:=hval0
 have hW':=hW
 obtain ⟨p,q,hA0,hV,rfl,_,_⟩:=hW
 have hA:DataW.TrodAll enc Tryz.prog W 0 (fun _=>true) true Tryz.f6.params.toList args.toList ds p:=hA0
 rw [a6n] at hA hval
 obtain ⟨v0,v1,d0,d1,p0,p1,rfl,rfl,rfl,h0,h1⟩:=trodAll_two hA
 obtain ⟨rfl,rfl⟩:=trodVars_none hV
 obtain ⟨a0,rfl,hz0⟩:=okWide_struct (fs:=_) Tryz.underlying52 (hval 0 52 v0 rfl rfl)
 obtain ⟨r0,hr0,hq0⟩:=c1i (n:=3) (by kernel_rfl) hz0 h0
 obtain ⟨x0,e0,b0⟩:=c52 (n:=0) hr0
 rw [← e0] at hq0
 obtain ⟨a1,rfl,hz1⟩:=okWide_struct (fs:=_) Tryz.underlying30 (hval 1 30 v1 rfl rfl)
 obtain ⟨r1,hr1,hq1⟩:=c1i (n:=3) (by kernel_rfl) hz1 h1
 obtain ⟨x1,e1,b1⟩:=b76 (n:=0) hr1
 rw [← e1] at hq1
 obtain ⟨I,hg,hb⟩:=gh_of hL hsh
 have hlaw:=@b6t I x0 x1 b0 b1.1 b1.2
 refine (c5n (v:=.bool true) hlaw (fun g hgg=>⟨fun h=>h,hg g hgg⟩) (fun g hgg=>⟨fun h=>h,hb g hgg⟩) (.cons _ _ _ _ [] [] (.val _ _ hq0) (.cons _ _ _ _ [] [] (.val _ _ hq1) .nil)) (fun L w u hu=>by cases hu;rfl)).mono fun e W' ⟨he,hbl⟩=>?_
 exact ⟨_,he,c15 c0u rfl Tryz.underlying4 rfl (by kernel_rfl) rfl hW' hbl⟩
theorem c1q:(Rows.fnExactReceiveRow.inPlace == Tryz.prog.inPlace 6)=true:=by kernel_rfl
theorem c1p:(Rows.fnExactReceiveRow.unfollowed == Tryz.prog.unfollowed 6)=true:=by kernel_rfl
theorem c1o:(Rows.fnExactReceiveRow.recurses == Tryz.prog.recurses 6)=true:=by kernel_rfl
theorem c1n:(Rows.fnExactReceiveRow.named == Tryz.prog.varsNamed 6)=true:=by kernel_rfl
theorem c1m:(Rows.fnExactReceiveRow.plainKeys == Tryz.prog.plainKeys)=true:=by rw [z8All];rfl
theorem b75:(Rows.fnExactReceiveRow.lifted == Tryz.prog.liftsFinal)=true:=by rw [z11All];rfl
theorem z12Receive:Tryz.prog.funcNamed "loop.example/g00779/laws.FnExactReceive" = some 6:=by kernel_rfl
theorem b2z:joinedFacts Tryz.prog 6 Tryz.f6 Rows.fnExactReceiveSpec Rows.fnExactReceiveRow=true:=by
 unfold joinedFacts
 simp only [Bool.and_eq_true]
 repeat' (apply And.intro)
 all_goals first
  | with_reducible exact c0u
  | with_reducible exact c1q
  | with_reducible exact c1p
  | with_reducible exact c1o
  | with_reducible exact c1n
  | with_reducible exact z5All
  | with_reducible exact z6All
  | with_reducible exact z7All
  | with_reducible exact c1m
  | with_reducible exact z9All
  | with_reducible exact z10All
  | with_reducible exact b75
  | kernel_rfl
theorem b6y:Tryz.f6.isInstance Tryz.prog Rows.fnExactReceiveRow.origin Rows.fnExactReceiveRow.targs:=of_decide_eq_true (by kernel_rfl)
theorem b5k:Tryz.f6.isWrapper Tryz.prog Rows.fnExactReceiveRow.wrapper Rows.fnExactReceiveRow.mainSum:=by
 unfold Func.isWrapper;first | (rw [if_pos (by decide +kernel)];kernel_rfl) | (rw [if_neg (by decide +kernel)];exact ⟨rfl,rfl⟩)
theorem b8g:Rows.FnExactReceiveSaid:=
 OpenClaim.holds_of_wide 6 Tryz.f6 rfl rfl rfl rfl rfl rfl rfl ⟨rfl,rfl,rfl,rfl,rfl⟩ rfl rfl rfl rfl rfl z12Receive Tryz.func6 b2z b6y b5k
  (fun os started H enc _=>b2t os started H enc)
theorem c1s:Rows.fnExactReceiveRow.wfByText (OpenSpec.ofChange Rows.fnExactReceiveSpec)=true:=by kernel_rfl
theorem c1r:false=Rows.fnExactReceiveRow.goesBy Tryz.prog:=by kernel_rfl
theorem receive_card:Rows.FnExactReceiveCardSaid:=
 Claim7.holds_tied_plain_at .later [] [.data,.data,.data,.sentinel,.sentinel] true (true, "ac77757cf8e36a121016858653550d99e632a575f00785e5295a67301b5b6646") true
  b8g (fun _ h=>by cases h) c1s (fun _ h=>by cases h) fnExactReceive_row_tie rfl ⟨rfl,rfl⟩ y2All rfl
  (fun f fn hf hfn=>by
   obtain rfl:f=6:=Option.some.inj (z12Receive.symm.trans hf) |>.symm
   obtain rfl:fn=Tryz.f6:=(Option.some.inj (Tryz.func6.symm.trans hfn)).symm
   exact ⟨y3All,fun j t ht=>by
    rw [a6n] at ht
    match j,ht with
    | 0,ht=>
     obtain rfl:52=t:=by simpa using ht
     exact (show Tryz.prog.wantsStandIn 52=false by kernel_rfl)
    | 1,ht=>
     obtain rfl:30=t:=by simpa using ht
     exact (show Tryz.prog.wantsStandIn 30=false by kernel_rfl)
    | j+2,ht=>simp at ht⟩)
  c1r
end Go.Proofs.YtfoapolbgpjfaaaGreatDoor
end
