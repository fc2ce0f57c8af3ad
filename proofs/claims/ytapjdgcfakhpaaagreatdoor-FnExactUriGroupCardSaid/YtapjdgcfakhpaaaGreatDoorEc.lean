/- Ec: merged out of KLc, KIm, KIn. -/
import Derived.Test.YtapjdgcfakhpaaaGreatDoorEa
import Derived.Shelf.Strings.IndexAnyAll
import Derived.Laws.Runes
import Derived.Laws.RangeAny
import Derived.Lib.QuoteLoop
import Derived.WalkMore
import Derived.Lib.OthersKept
import Derived.Deep.QuietTactic
import Derived.BigQuiet
import Derived.Deep.DeepBigQuietO
import Derived.Shelf.RegionOpenPlain
import Derived.Test.YtapjdgcfakhpaaaGreatDoorCa
import Derived.Test.YtapjdgcfakhpaaaGreatDoorAc
import Derived.Test.YtapjdgcfakhpaaaGreatDoorBa
import Derived.Test.YtapjdgcfakhpaaaGreatDoorEb
import Derived.Test.YtapjdgcfakhpaaaGreatDoorCb
set_option linter.unusedSectionVars false
set_option linter.unusedSimpArgs false
set_option linter.unusedVariables false
set_option maxRecDepth 100000
section
namespace Go.Proofs
open Go.Shelf Go.RowKit Go.Lib
variable {P:Program} {ρ:Ren}
set_option maxHeartbeats 8000000 in
set_option maxRecDepth 1000000 in
theorem a5m (L:Lays.n152 P ρ) (s:ByteArray) (w:World) (hs:∀ (j:Nat) b,s.data.toList[j]?=some b→b.toNat < 128) :
 Calls P (ρ.f 152) #[.string s,.int .i32 65533] w fun e w'=>e=.returned (.int .i64 (-1))∧∃ pos,w'=w.iter s pos:=by
 have HA:Aside (∀ (j:Nat) b,s.data.toList[j]?=some b→b.toNat < 128):=hs
 clear hs
 have t3:=L.t3;have a3:=L.a3;have z3:=L.z3;have v3:=L.v3
 have t4:=L.t4;have a4:=L.a4;have z4:=L.z4;have v4:=L.v4
 have t5:=L.t5;have a5:=L.a5;have z5:=L.z5;have v5:=L.v5
 have t9:=L.t9;have a9:=L.a9;have z9:=L.z9;have v9:=L.v9
 have t21:=L.t21;have a21:=L.a21;have z21:=L.z21;have v21:=L.v21
 go_enter L.f152,Body.n152_ntmps ρ
 go_wp2
 go_loopg [5,6] s.size (fun g _ _ wx=>∃ i:Nat,i+g=s.size∧wx=w.iter s i)
 case atStart=>exact ⟨0,by omega,rfl⟩
 case round=>
  obtain ⟨i,hig,rfl⟩:=hrel
  cases gk with
  | zero=>
   obtain rfl:i=s.size:=by omega
   have hnx:=run_next_end (P:=P) w s s.size
   go_wp2
   go_ret
   exact ⟨rfl,_,rfl⟩
  | succ g=>
   have hi:i < s.size:=by omega
   obtain ⟨x,hx⟩:∃ x:UInt8,s[i]'hi=x:=⟨_,rfl⟩
   have hxl:s.data.toList[i]?=some x:=by rw [← hx];exact Lib.data_getElem? s i hi
   have hx128:x.toNat < 128:=HA.out i x hxl
   have hnx:=fun ty=>run_next_ascii (P:=P) w s i ty hi (by rw [hx];exact hx128)
   rw [hx] at hnx
   clear hxl hx
   have hne:((x.toNat:Int) == 65533)=false:=beq_eq_false_iff_ne.2 (by omega)
   go_wp2
   go_roundg g
   case measure=>omega
   case rel=>exact ⟨i+1,by omega,rfl⟩
theorem b5q (r:Int) (hv:Lib.validRune r=true) (h128:128≤r):1≤(Utf8.encode r).size∧(Utf8.encode r).size≤4∧∀ h:(Utf8.encode r).size - 1 < (Utf8.encode r).size,128≤((Utf8.encode r)[(Utf8.encode r).size - 1]'h).toNat:=by
 have:=encode_facts r (by rw [Go.validRune_eq];exact hv) h128
 exact ⟨by omega,this.2.1,this.2.2⟩
set_option maxHeartbeats 8000000 in
set_option maxRecDepth 1000000 in
theorem a6r (L:Lays.n152 P ρ) (s:ByteArray) (r:Int) (w:World) (h128:128≤r) (hne:r≠65533) (hv:Lib.validRune r=true) (hsz:s.size < 1000) (hs:∀ b∈s.data.toList,b.toNat < 128) :
 Calls P (ρ.f 152) #[.string s,.int .i32 r] w fun e w'=>e=.returned (.int .i64 (-1))∧Below w.heap.size w w':=by
 have HA:Aside (∀ b∈s.data.toList,b.toNat < 128):=hs
 clear hs
 obtain ⟨k1,k4,klast⟩:=b5q r hv h128
 have mixed:=L.mixed
 obtain ⟨t,ht⟩:∃ t,Utf8.encode r=t:=⟨_,rfl⟩
 rw [ht] at k1 k4 klast
 have t3:=L.t3;have a3:=L.a3;have z3:=L.z3;have v3:=L.v3
 have t4:=L.t4;have a4:=L.a4;have z4:=L.z4;have v4:=L.v4
 have t5:=L.t5;have a5:=L.a5;have z5:=L.z5;have v5:=L.v5
 have t9:=L.t9;have a9:=L.a9;have z9:=L.z9;have v9:=L.v9
 have t21:=L.t21;have a21:=L.a21;have z21:=L.z21;have v21:=L.v21
 have e119:∀ args w,(callFunc (ρ.f 119) args).run P w=.ok (.enter (ρ.f 119) args) w:=enters_of L.f119 (by kernel_rfl) rfl
 have e137:∀ args w,(callFunc (ρ.f 137) args).run P w=.ok (.enter (ρ.f 137) args) w:=enters_of L.f137 (by kernel_rfl) rfl
 have hneb:(r == 65533)=false:=beq_eq_false_iff_ne.2 hne
 have h128b:¬ r < 128:=by omega
 have hcv:∀ (w:World),(convert (ρ.t 21) (ρ.t 9) (.int .i32 r)).run P w=.ok (.string t) w:=fun w=>by
  rw [run_convert_int_string w _ _ _ _ (by rw [t21];rfl) t9,ht]
 go_enter L.f152,Body.n152_ntmps ρ
 go_wp2_with (go_at_fn (ρ.f 119);refine (Any.utf8_ValidRune { L with } _ _).mono ?_;rintro e w' ⟨rfl,hw⟩;rw [hw,hv])
 go_step3
 go_wp2
 go_loopg [9,10] 0 (fun g s9 s10 wx=>s9=.int .i64 ((t.size:Int) - 1)∧s10=.int .i64 0∧wx=w)
 case atStart=>exact ⟨rfl,rfl,rfl⟩
 case round=>
  obtain ⟨rfl,rfl,rfl⟩:=hrel
  by_cases hlt:(t.size:Int) - 1 < (s.size:Int)
  · have hi:t.size - 1 < s.size:=by omega
    have hj:t.size - 1 < t.size:=by omega
    have e1:((t.size:Int) - 1).toNat=t.size - 1:=by omega
    have q0:(0:Int)≤(t.size:Int) - 1:=by omega
    have q1:(t.size:Int) - 1 < (t.size:Int):=by omega
    obtain ⟨x,hx⟩:∃ x:UInt8,s[t.size - 1]'hi=x:=⟨_,rfl⟩
    obtain ⟨y,hy⟩:∃ y:UInt8,t[t.size - 1]'hj=y:=⟨_,rfl⟩
    have hx1:x.toNat < 128:=HA.out x (by rw [← hx];exact Array.getElem_mem_toList (xs:=s.data) hi)
    have hy1:128≤y.toNat:=by rw [← hy];exact klast hj
    have hxy:((x.toNat:Int) == (y.toNat:Int))=false:=beq_eq_false_iff_ne.2 (by omega)
    have g1:∀ w:World,(Instr.index (ρ.t 9) (.string s) (.int .i64 ((t.size:Int) - 1))).run P w=.ok (.int .u8 (x.toNat:Int)) w:=fun w=>by
     rw [run_index_string w _ _ _ _ t9,dif_pos ⟨q0,hlt⟩]
     congr 3
     rw [← hx];congr 2
    have g2:∀ w:World,(Instr.index (ρ.t 9) (.string t) (.int .i64 ((t.size:Int) - 1))).run P w=.ok (.int .u8 (y.toNat:Int)) w:=fun w=>by
     rw [run_index_string w _ _ _ _ t9,dif_pos ⟨q0,q1⟩]
     congr 3
     rw [← hy];congr 2
    go_wp2
    go_step3
    go_wp2
    go_quiet_o (fail)
    go_wp2
    have hix:Lib.indexByte (s.extract t.size s.size).data.toList y=-1:=by
     rw [← Lib.firstIdx_eq]
     exact firstIdx_ascii s _ _ y (fun b hb=>HA.out b hb) hy1
    have hback:((y.toNat:Int)).toNat.toUInt8=y:=by simp
    have hcall:∀ w:World,Calls P (ρ.f 137) #[.string (s.extract t.size s.size),.int .u8 (y.toNat:Int)] w fun e w'=>e=.returned (.int .i64 (-1))∧w'=w:=fun w=>by
     refine (Any.strings_IndexByte { L with } (s.extract t.size s.size) (y.toNat:Int) w).mono ?_
     rintro e w' ⟨rfl,hw⟩
     rw [hback,hix];exact ⟨rfl,hw⟩
    have hwr:IntKind.i64.wrap (t.size:Int)=(t.size:Int):=Go.wrap_small _ (by omega) (by omega)
    have q3:(t.size:Int)≤(s.size:Int):=by omega
    go_big_quiet_o (first | exact (hcall _).mono fun _ _ h=>⟨h.1,_,h.2⟩)
    go_wp2
    simp only [Exit.then,Exit.inBlock,Exit.noGoto]
    go_ret
    exact ⟨rfl,⟨rfl,rfl,rfl,Nat.le_refl _,fun _ _=>rfl⟩⟩
  · go_wp2
    go_ret
    exact ⟨rfl,Below.refl _ _⟩
theorem b5s (s:ByteArray) (pos:Nat) (h:pos < s.size) (ha:128≤(s[pos]'h).toNat):pos+(Utf8.decode s pos).2≤s.size∧∀ j,pos≤j→j < pos+(Utf8.decode s pos).2→128≤(s.get! j).toNat:=by
 have h0:s.get! (pos+0)=s[pos]'h:=get_at s pos h
 have hn:¬ (s[pos]'h).toNat < 128:=by omega
 have key:∀ n,(1≤n∧n≤4)→(2≤n→pos+1 < s.size∧(s.get! (pos+1)).toNat / 64=2)→(3≤n→pos+2 < s.size∧(s.get! (pos+2)).toNat / 64=2)→(4≤n→pos+3 < s.size∧(s.get! (pos+3)).toNat / 64=2) →
  pos+n≤s.size∧∀ j,pos≤j→j < pos+n→128≤(s.get! j).toNat:=by
  intro n hn4 q1 q2 q3
  constructor
  · by_cases c1:4≤n
    · have:=(q3 c1).1;omega
    · by_cases c2:3≤n
      · have:=(q2 c2).1;omega
      · by_cases c3:2≤n
        · have:=(q1 c3).1;omega
        · omega
  · intro j hj hjn
    have:j=pos+0∨j=pos+1∨j=pos+2∨j=pos+3:=by omega
    rcases this with rfl | rfl | rfl | rfl
    · show 128≤(s.get! (j+0)).toNat
      rw [h0];exact ha
    · have:=(q1 (by omega)).2;omega
    · have:=(q2 (by omega)).2;omega
    · have:=(q3 (by omega)).2;omega
 unfold Utf8.decode
 simp only [h0,hn,if_false]
 repeat' split
 all_goals (first
  | (refine key 1 (by omega) (by omega) (by omega) (by omega))
  | (rename_i hc _;simp only [Bool.and_eq_true,decide_eq_true_eq,beq_iff_eq] at hc;refine key 2 (by omega) (fun _=>⟨hc.2.1,hc.2.2⟩) (by omega) (by omega))
  | (rename_i hc _;simp only [Bool.and_eq_true,decide_eq_true_eq,beq_iff_eq] at hc;refine key 3 (by omega) (fun _=>⟨hc.1.2.1,hc.1.2.2⟩) (fun _=>⟨hc.2.1,hc.2.2⟩) (by omega))
  | (rename_i hc _;simp only [Bool.and_eq_true,decide_eq_true_eq,beq_iff_eq] at hc;refine key 4 (by omega) (fun _=>⟨hc.1.1.2.1,hc.1.1.2.2⟩) (fun _=>⟨hc.1.2.1,hc.1.2.2⟩) (fun _=>⟨hc.2.1,hc.2.2⟩)))
theorem b3p (s:ByteArray) (pos:Nat):Lib.validRune ((Utf8.decode s pos).1:Int)=true:=by
 have h:=Lib.decodeN_valid (s.size - pos) (s.get! pos).toNat (s.get! (pos+1)).toNat (s.get! (pos+2)).toNat (s.get! (pos+3)).toNat (UInt8.toNat_lt _)
 rw [← Lib.decode_at] at h
 simp only [Lib.validRune,decide_eq_true_eq]
 omega
theorem a43 (L:Lays.n152 P ρ) (chars:ByteArray) (c:Int) (w:World) (h128:128≤c) (hv:Lib.validRune c=true) (hsz:chars.size < 1000) (hs:∀ b∈chars.data.toList,b.toNat < 128) :
 Calls P (ρ.f 152) #[.string chars,.int .i32 c] w fun e w'=>e=.returned (.int .i64 (-1))∧Below w.heap.size w w':=by
 by_cases he:c=65533
 · subst he
   refine (a5m L chars w (fun j b hb=>hs b (List.mem_of_getElem? hb))).mono fun e w' ⟨h1,pos,h2⟩=>⟨h1,?_⟩
   subst h2
   exact (Below.refl _ w).alloc (Nat.le_refl _) _
 · exact a6r L chars c w h128 he hv hsz hs
set_option maxHeartbeats 8000000 in
set_option maxRecDepth 1000000 in
theorem a6s (L:Lays.n153 P ρ) (s chars:ByteArray) (w:World) (h2:2≤chars.size) (h8:s.size≤8) (hsz:chars.size < 1000) (hascii:∀ b∈chars.data.toList,b.toNat < 128) :
 Calls P (ρ.f 153) #[.string s,.string chars] w fun e w'=>e=.returned (.int .i64 (Lib.indexAny s.data.toList chars.data.toList))∧Below w.heap.size w w':=by
 have HA:Aside (∀ b∈chars.data.toList,b.toNat < 128):=hascii
 clear hascii
 have hemp:chars.toList.isEmpty=false:=by
  rw [Lib.toList_data]
  cases h:chars.data.toList with
  | nil=>have:=Lib.size_eq chars;rw [h,List.length_nil] at this;omega
  | cons _ _=>rfl
 have hn1:((chars.size:Int) == 1)=false:=beq_eq_false_iff_ne.2 (by omega)
 have h8z:decide ((8:Int) < (s.size:Int))=false:=decide_eq_false (by omega)
 have t3:=L.t3;have a3:=L.a3;have z3:=L.z3;have v3:=L.v3
 have t4:=L.t4;have a4:=L.a4;have z4:=L.z4;have v4:=L.v4
 have t5:=L.t5;have a5:=L.a5;have z5:=L.z5;have v5:=L.v5
 have t9:=L.t9;have a9:=L.a9;have z9:=L.z9;have v9:=L.v9
 have t21:=L.t21;have a21:=L.a21;have z21:=L.z21;have v21:=L.v21
 have e152:∀ args w,(callFunc (ρ.f 152) args).run P w=.ok (.enter (ρ.f 152) args) w:=enters_of L.f152 (by kernel_rfl) rfl
 have e226:∀ args w,(callFunc (ρ.f 226) args).run P w=.ok (.enter (ρ.f 226) args) w:=enters_of L.f226 (by kernel_rfl) rfl
 go_enter L.f153,Body.n153_ntmps ρ
 go_wp2_with (go_at_fn (ρ.f 226);refine (Any.strings_shouldUseASCIISet { L with } _ _).mono ?_;rintro e w' ⟨rfl,hw⟩;rw [hw,h8z])
 go_loopg [9,10] s.size (fun g _ _ wx=>∃ i:Nat,i+g=s.size∧wx.heap[w.heap.size]?=some (.stringIter s i)∧Below w.heap.size w wx∧Lib.NoAny s.data.toList chars.data.toList i)
 case atStart=>exact ⟨0,by omega,World.iter_heap _ _ _,(Below.refl _ w).alloc (Nat.le_refl _) _,Lib.NoAny.zero _ _⟩
 case round=>
  obtain ⟨i,hig,hk,hbel,hno⟩:=hrel
  have HN:Aside (Lib.NoAny s.data.toList chars.data.toList i):=hno
  have HB:Aside (Below w.heap.size w wr):=hbel
  have HK:Aside (wr.heap[w.heap.size]?=some (.stringIter s i)):=hk
  cases gk with
  | zero=>
   obtain rfl:i=s.size:=by omega
   have hnx:=fun ty=>Lib.run_next_end_at (P:=P) wr w.heap.size s s.size ty hk (by omega)
   clear hno hbel hk
   go_wp2
   go_ret
   exact ⟨by rw [Lib.indexAny_none (by rw [← Lib.size_eq];exact HN.out)];rfl,HB.out⟩
  | succ g=>
   have hi:i < s.size:=by omega
   obtain ⟨x,hx⟩:∃ x:UInt8,s[i]'hi=x:=⟨_,rfl⟩
   have hxl:s.data.toList[i]?=some x:=by rw [← hx];exact Lib.data_getElem? s i hi
   have Hx:Aside (s.data.toList[i]?=some x):=hxl
   have hwd:∀ pos',(wr.iterAt w.heap.size s pos').heap[w.heap.size]?=some (.stringIter s pos'):=fun pos'=>Lib.iterAt_heap _ _ _ _ _ hk
   have HW:Aside (∀ pos',(wr.iterAt w.heap.size s pos').heap[w.heap.size]?=some (.stringIter s pos')):=hwd
   have HL:Aside (w.heap.size < wr.heap.size):=(Array.getElem?_eq_some_iff.1 hk).1
   by_cases hx128:x.toNat < 128
   · have hnx:=fun ty=>Lib.run_next_ascii_at (P:=P) wr w.heap.size s i ty hk hi (by rw [hx];exact hx128)
     rw [hx] at hnx
     clear hxl hx hno hbel hk hwd
     have hcon:=Lib.contains_iff_indexByte chars.data.toList x
     have hback:((x.toNat:Int)).toNat.toUInt8=x:=by simp
     cases hin:chars.data.toList.contains x
     · rw [hin] at hcon
       have hlt:¬ ((0:Int)≤Lib.indexByte chars.data.toList x):=of_decide_eq_false hcon.symm
       clear hcon
       go_wp2_with (go_at_fn (ρ.f 152);refine (Any.strings_IndexRune_ascii { L with } _ _ _ (by omega) (by omega)).mono ?_;rintro e w' ⟨rfl,hw⟩;rw [hw,hback])
       go_roundg g
       case measure=>omega
       case rel=>exact ⟨i+1,by omega,HW.out _,Lib.below_iterAt HB.out (Nat.le_refl _) s _,HN.out.succ Hx.out hin⟩
     · rw [hin] at hcon
       have hge:(0:Int)≤Lib.indexByte chars.data.toList x:=of_decide_eq_true hcon.symm
       clear hcon
       go_wp2_with (go_at_fn (ρ.f 152);refine (Any.strings_IndexRune_ascii { L with } _ _ _ (by omega) (by omega)).mono ?_;rintro e w' ⟨rfl,hw⟩;rw [hw,hback])
       go_ret
       exact ⟨by rw [Lib.indexAny_hit HN.out Hx.out hin];rfl,Lib.below_iterAt HB.out (Nat.le_refl _) s _⟩
   · have hnx:=fun ty=>Lib.run_next_any_at (P:=P) wr w.heap.size s i ty hk hi
     obtain ⟨d1,d2⟩:=decode_high s i hi (by rw [hx];omega)
     obtain ⟨k1,k2⟩:=b5s s i hi (by rw [hx];omega)
     have d3:=b3p s i
     generalize Utf8.decode s i=r at *
     obtain ⟨c,n⟩:=r
     simp only at *
     have hno2:Lib.NoAny s.data.toList chars.data.toList (i+n):=fun j b hj hb=>by
      by_cases hji:j < i
      · exact hno j b hji hb
      · have hb128:=k2 j (by omega) hj
        have hjs:j < s.size:=by omega
        have hbe:s.get! j=b:=by
         have:=Lib.data_getElem? s j hjs
         rw [hb] at this
         show s.get! j=b
         rw [Option.some.inj this]
         have:=get_at s j hjs
         simpa using this
        rw [hbe] at hb128
        cases hcc:chars.data.toList.contains b with
        | false=>rfl
        | true=>
         rw [List.contains_iff_mem] at hcc
         have:=HA.out b hcc
         omega
     have HN2:Aside (Lib.NoAny s.data.toList chars.data.toList (i+n)):=hno2
     have HC:Aside (∀ w:World,Calls P (ρ.f 152) #[.string chars,.int .i32 (c:Int)] w fun e w'=>e=.returned (.int .i64 (-1))∧Below w.heap.size w w'):=fun w=>a43 { L with } chars c w (by omega) d3 hsz HA.out
     clear hxl hx hno hbel hk hwd hno2 k2 d3
     go_wp2_with (go_at_fn (ρ.f 152);refine (HC.out _).mono ?_;rintro e w' ⟨rfl,hw⟩;have HB2:Aside (Below _ _ _):=hw;clear hw)
     go_roundg (g+1 - n)
     case measure=>omega
     case rel=>
      refine ⟨i+n,by omega,?_,(Lib.below_iterAt HB.out (Nat.le_refl _) s _).trans (HB2.out.mono (by rw [Lib.iterAt_size];exact Nat.le_of_lt HL.out)),HN2.out⟩
      rw [HB2.out.block _ (by rw [Lib.iterAt_size];exact HL.out)]
      exact HW.out _
set_option maxHeartbeats 1000000 in
theorem a89 (L:Lays.n150 P ρ) (h116:(P.info? (ρ.t 116)).map (fun i=>(i.zero,i.size))=some (some (.agg (Array.replicate 256 (.bool false))),256)) (s chars:ByteArray) (w:World) (hs:s.size < 4294967281) (h2:2≤chars.size) (hcs:chars.size < 1000) (hac:∀ b∈chars.data.toList,b.toNat < 128) :
 Calls P (ρ.f 150) #[.string s,.string chars] w fun e w'=>e=.returned (.bool (Lib.containsAny s.data.toList chars.data.toList))∧Below w.heap.size w w':=by
 have c:Calls P (ρ.f 153) #[.string s,.string chars] w fun e w'=>e=.returned (.int .i64 (Lib.indexAny s.data.toList chars.data.toList))∧Below w.heap.size w w':=by
  by_cases h8:s.size≤8
  · exact a6s { L with } s chars w h2 h8 hcs hac
  · refine (Any.strings_IndexAny_long { L with } (zero_of_info h116).1 (zero_of_info h116).2 s chars w h2 (by omega) hs (by omega) (fun j b hb=>hac b (List.mem_of_getElem? hb))).mono fun e w' ⟨h1,h2⟩=>⟨h1,?_⟩
    rw [h2]
    exact ((Below.refl _ _).alloc (Nat.le_refl _) _).alloc (by simp) _
 have t3:=L.t3;have a3:=L.a3;have z3:=L.z3;have v3:=L.v3
 have t4:=L.t4;have a4:=L.a4;have z4:=L.z4;have v4:=L.v4
 have t9:=L.t9;have a9:=L.a9;have z9:=L.z9;have v9:=L.v9
 have e153:∀ args w,(callFunc (ρ.f 153) args).run P w=.ok (.enter (ρ.f 153) args) w:=enters_of L.f153 (by kernel_rfl) rfl
 go_enter L.f150,Body.n150_ntmps ρ
 go_wp2_with (go_at_fn (ρ.f 153);refine c.mono ?_;rintro e w' ⟨rfl,hw⟩)
 go_ret
 exact ⟨rfl,hw⟩
open Go.PW Go.KP
variable [GH]
theorem b02 (t wo:Tx) (ht:t.length < 4294967281) (h2:2≤wo.length) (hw:wo.length < 1000) (ha:∀ b∈wo,b.toNat < 128):f7 Tryz.prog 193 [.val (tx t),.val (tx wo)] (.ret (.val (.bool (B3 t wo))) []) []:=by
 refine a0a (rs:=[tx t,tx wo]) (vals:=[.string (bs t),.string (bs wo)]) (v:=.bool (B3 t wo)) rfl rfl fun L w hgl hgb=>?_
 refine (a89 Tryz.lays150 (by kernel_rfl) (bs t) (bs wo) w (by rw [b6];exact ht) (by rw [b6];exact h2) (by rw [b6];exact hw) (fun b hb=>by rw [S7] at hb;exact ha b hb)).mono fun e w' ⟨he,hw⟩=>?_
 rw [S7,S7,a4u] at he
 exact ⟨he,hw⟩
end Go.Proofs
end
section
namespace Go.Proofs
open Go.PW Go.KP
attribute [local simp] RV.cells RV.one PV.cells PV.solid PV.one w5 i6 n7 n6 RV.ofCells elems PV.killL
variable [GF]
theorem b5i (l:List Tx) (v:Tx) (hl:l.length < 1099511627776):f7 Tryz.prog 156 [.val (.list 1 (l.map tx)),.val (tx v)] (.ret (.val (num (a2o l fun x=>decide (x=v)))) []) []:=by
 refine f9 mixed ok156 rfl (fun _=>rfl) ?_
 unfold ir156
 rw [b9]
 simp [d9,j4,l0,b7,d8,num]
 refine l4 (X:=Nat) (fun i=>⟨u0 [(0,.val (.list 1 (l.map tx))),(1,.val (tx v)),(7,.val (num l.length)),(8,.val (num i))],u4 []⟩) (fun i=>i≤l.length∧∀ k (hk:k < i) (hk':k < l.length),l[k]≠v) (fun i=>l.length - i) 0 (Le.mk _ _ ?_ ?_) ?_ ?_
 · simp [upd,num]
 · simp
 · simp
 · rintro i ⟨hi,hne⟩
   simp [num]
   refine i7 (fun h1=>?_) (fun h1=>?_)
   · have e1:(l.map tx)[i]?.getD .nilptr=tx l[i]:=by simp [List.getElem?_eq_getElem h1]
     by_cases hv:v=l[i]
     · have hh:a2o l (fun x=>decide (x=v))=i:=a22 h1 (by simp [← hv]) (fun k hk=>by simp [hne k hk (by omega)])
       simp [num,h1,e1,tx,u5,(eq_true hv:(v=l[i])=True)]
       rw [hh]
     · simp [num,h1,e1,tx,u5,hv]
       refine LoopNext.mk (i+1) ⟨by omega,fun k hk hk'=>?_⟩ (by omega) (Le.mk _ _ ?_ ?_)
       · by_cases e:k=i
         · subst e;exact fun h=>hv h.symm
         · exact hne k (by omega) hk'
       · simp [num,tx];exact wrap_i64 (by omega) (by omega)
       · simp
   · have e:i=l.length:=by omega
     subst e
     have hh:a2o l (fun x=>decide (x=v))=-1:=a2z (fun k hk=>by simp [hne k hk hk])
     simp [num,hh]
theorem a4n (l:List Tx) (v:Tx) (hl:l.length < 1099511627776):f7 Tryz.prog 197 [.val (.list 1 (l.map tx)),.val (tx v)] (.ret (.val (.bool (decide (v∈l)))) []) []:=by
 refine f9 mixed ok197 rfl (fun _=>rfl) ?_
 unfold ir197
 rw [b9]
 simp [d9,j4,l0,b7,d8,num]
 refine d7 rfl rfl (.inl rfl) (b5i l v hl) ?_
 have hg:=b3b l (fun x=>decide (x=v))
 rw [Bool.eq_iff_iff] at hg
 simp only [decide_eq_true_eq,List.any_eq_true,exists_eq_right] at hg
 simp [num,hg]
theorem b5j (a b:List Tx) (ha:a.length < 1099511627776) (hb:b.length < 1099511627776):f7 Tryz.prog 134 [.val (.list 1 (a.map tx)),.val (.list 1 (b.map tx))] (.ret (.val (.bool (decide (a=b)))) []) []:=by
 refine f9 mixed ok134 rfl (fun _=>rfl) ?_
 unfold ir134
 rw [b9]
 by_cases hlen:a.length=b.length
 rotate_left
 · have h1:¬ (a.length:Int)=b.length:=by omega
   have h2:a≠b:=fun e=>hlen (by rw [e])
   simp [d9,j4,l0,b7,d8,h1,h2]
 simp [d9,j4,l0,b7,d8,num,hlen]
 refine l4 (X:=Nat) (fun i=>⟨u0 [(0,.val (.list 1 (a.map tx))),(1,.val (.list 1 (b.map tx))),(12,.val (num b.length)),(13,.val (num i))],u4 []⟩) (fun i=>i≤b.length∧a.take i=b.take i) (fun i=>b.length - i) 0 (Le.mk _ _ ?_ ?_) ?_ ?_
 · simp [upd,num]
 · simp
 · simp
 · rintro i ⟨hi,heq⟩
   simp [num]
   refine i7 (fun h1b=>?_) (fun h1=>?_)
   · have h1:i < a.length:=by omega
     have e1:(a.map tx)[i]?.getD .nilptr=tx a[i]:=by simp [List.getElem?_eq_getElem h1]
     have e2:(b.map tx)[i]?.getD .nilptr=tx b[i]:=by simp [List.getElem?_eq_getElem h1b]
     simp [num,h1,h1b,e1,e2,tx,u5]
     by_cases hu:a[i]=b[i]
     · simp [hu]
       refine LoopNext.mk (i+1) ⟨by omega,?_⟩ (by omega) (Le.mk _ _ ?_ ?_)
       · rw [List.take_add_one,List.take_add_one,List.getElem?_eq_getElem h1,List.getElem?_eq_getElem h1b,heq,hu]
       · simp [num,tx];exact wrap_i64 (by omega) (by omega)
       · simp
     · have h2:a≠b:=fun e=>hu (by subst e;rfl)
       simp [hu,h2]
   · have e:i=b.length:=by omega
     subst e
     rw [← hlen,List.take_length,hlen,List.take_length] at heq
     simp [heq]
theorem a83 (l:List Tx) (g:Nat) (p:Tx→Bool) (hl:l.length < 1099511627776) (hg:fnB Tryz.prog g=true)
 (hp:∀ x∈l,f7 Tryz.prog g [.val (tx x)] (.ret (.val (.bool (p x))) []) []) :
 f7 Tryz.prog 258 [.val (.list 1 (l.map tx)),.fn g []] (.ret (.val (num (a2o l p))) []) []:=by
 refine f9 mixed ok258 rfl (fun _=>rfl) ?_
 unfold ir258
 rw [b9]
 simp [d9,j4,l0,b7,d8,l0,j4]
 refine l4 (X:=Nat) (fun i=>⟨u0 [(0,.val (.list 1 (l.map tx))),(1,.fn g []),(7,.val (num l.length)),(8,.val (num i))],u4 []⟩) (fun i=>i≤l.length∧∀ k (hk:k < i) (hk':k < l.length),p l[k]=false) (fun i=>l.length - i) 0 (Le.mk _ _ ?_ ?_) ?_ ?_
 · simp [upd,num]
 · simp
 · simp
 · rintro i ⟨hi,hne⟩
   simp [num]
   refine i7 (fun h1=>?_) (fun h1=>?_)
   · have e1:(l.map tx)[i]?.getD .nilptr=tx l[i]:=by simp [List.getElem?_eq_getElem h1]
     simp [num,h1,e1,tx,num,hg]
     refine d7 rfl rfl (.inl rfl) (hp l[i] (List.getElem_mem h1)) ?_
     cases hpi:p l[i] with
     | true=>
      simp
      rw [a22 h1 hpi (fun k hk=>hne k hk (by omega))];rfl
     | false=>
      simp
      refine LoopNext.mk (i+1) ⟨by omega,fun k hk hk'=>?_⟩ (by omega) (Le.mk _ _ ?_ ?_)
      · by_cases e:k=i
        · subst e;exact hpi
        · exact hne k (by omega) hk'
      · simp [num];exact wrap_i64 (by omega) (by omega)
      · simp
   · have e:i=l.length:=by omega
     subst e
     simp [num]
     rw [a2z (fun k hk=>hne k hk hk)]
theorem a6i (l:List Tx) (g:Nat) (p:Tx→Bool) (hl:l.length < 1099511627776) (hg:fnB Tryz.prog g=true)
 (hp:∀ x∈l,f7 Tryz.prog g [.val (tx x)] (.ret (.val (.bool (p x))) []) []) :
 f7 Tryz.prog 191 [.val (.list 1 (l.map tx)),.fn g []] (.ret (.val (.bool (l.any p))) []) []:=by
 refine f9 mixed ok191 rfl (fun _=>rfl) ?_
 unfold ir191
 rw [b9]
 simp [d9,j4,l0,b7,d8,l0,j4]
 refine d7 rfl rfl (.inl rfl) (a83 l g p hl hg hp) ?_
 simp [num]
 exact b3b l p
theorem a6h (l:List LRule) (g:Nat) (c0_0:RV) (p:LRule→Bool) (hl:l.length < 1099511627776) (hg:fnB Tryz.prog g=true)
 (hp:∀ x∈l,f7 Tryz.prog g [.val (j5 x),.box [c0_0]] (.ret (.val (.bool (p x))) []) [[c0_0]]) :
 f7 Tryz.prog 194 [.val (.list 2 (l.map j5)),.fn g [.box [c0_0]]] (.ret (.val (num (a2o l p))) []) [[c0_0]]:=by
 refine a3a mixed ok194 rfl (fun _=>rfl) ?_
 unfold ir194
 rw [b9]
 simp [d9,j4,l0,b7,d8,l0,j4]
 refine l4 (X:=Nat) (fun i=>⟨u0 [(0,.val (.list 2 (l.map j5))),(1,.fn g [.ptr 900 0]),(7,.val (num l.length)),(8,.val (num i))],u4 [(900,.box [.val c0_0])]⟩) (fun i=>i≤l.length∧∀ k (hk:k < i) (hk':k < l.length),p l[k]=false) (fun i=>l.length - i) 0 (Le.mk _ _ ?_ ?_) ?_ ?_
 · simp [upd,num]
 · simp
 · simp
 · rintro i ⟨hi,hne⟩
   simp [num]
   refine i7 (fun h1=>?_) (fun h1=>?_)
   · have e1:(l.map j5)[i]?.getD .nilptr=j5 l[i]:=by simp [List.getElem?_eq_getElem h1]
     simp [num,h1,e1,j5,tx,num,hg]
     refine a12 (ids:=[900]) rfl rfl (by simp) (by decide) (by simp [a7g,z7,H0,A0,G8,A1,t8,z8,G9,o0,C0,I4,I5,k9,r8,r9,m8,A2,t7,n5,G7,z6,t6,s8,E9,F0,a27,a28,Option.getD_some,Option.getD_none,D5,u7,q7,E6,p9,o8,E8,o9,E7,E5,E4,I9,x8,p7,E2,x6,p6,E1,D3,E3,x7,D8,o7,x5,D9,J1,J0,D4,D6,p5,D7,x9,p8,C3,o2,D2,D1,D0,I6,x3,o4,C8,x1,o3,C7,C1,C9,x2,C5,o1,w9,C6,I8,I7,C2,w8,o6,C4,x4,o5,L2,K9,M3,L3,L7,L5,L4,M2,L6,L8,L9,M0,M1,A6,A5,A4,O5,O6,u2,H1,u9,F4,y4,M6,u1,U8,P0,M8,Q3,Q5,Q4,U9,V0,K2,K4,K3,K5,K6,Q0,y6,P9,F5,F6,F7,y7,a3d,G4,z1,U6,U7,J2,O7,O8,Option.map_some,Option.map_none,F8,y8,y0,q8,F2,F3,J4,J3,R0,Q9,K8,G5,G6,K7,Q6,Q7,J6,r6,J7,q9,P4,G3,G2,n0,Q2,Q8,J9,P6,P8,P7,y5,B7,B9,B8,l5,Q1,V2,V1,P1,J8,a0g,P2,r7,G0,G1,y9,F9,l9,w6,l7,w7,l6,M5,R1,R2,A7,A8,H3,H2,F1]) rfl (hp l[i] (List.getElem_mem h1)) ?_
     cases hpi:p l[i] with
     | true=>
      simp [a18,W4]
      rw [a22 h1 hpi (fun k hk=>hne k hk (by omega))];rfl
     | false=>
      simp
      refine LoopNext.mk (i+1) ⟨by omega,fun k hk hk'=>?_⟩ (by omega) (Le.mk _ _ ?_ ?_)
      · by_cases e:k=i
        · subst e;exact hpi
        · exact hne k (by omega) hk'
      · simp [num];exact wrap_i64 (by omega) (by omega)
      · simp
   · have e:i=l.length:=by omega
     subst e
     simp [num,a18,W4]
     rw [a2z (fun k hk=>hne k hk hk)]
theorem a6g (l:List LRule) (g:Nat) (c0_0 c0_1:RV) (p:LRule→Bool) (hl:l.length < 1099511627776) (hg:fnB Tryz.prog g=true)
 (hp:∀ x∈l,f7 Tryz.prog g [.val (j5 x),.box [c0_0,c0_1]] (.ret (.val (.bool (p x))) []) [[c0_0,c0_1]]) :
 f7 Tryz.prog 194 [.val (.list 2 (l.map j5)),.fn g [.box [c0_0,c0_1]]] (.ret (.val (num (a2o l p))) []) [[c0_0,c0_1]]:=by
 refine a3a mixed ok194 rfl (fun _=>rfl) ?_
 unfold ir194
 rw [b9]
 simp [d9,j4,l0,b7,d8,l0,j4]
 refine l4 (X:=Nat) (fun i=>⟨u0 [(0,.val (.list 2 (l.map j5))),(1,.fn g [.ptr 900 0]),(7,.val (num l.length)),(8,.val (num i))],u4 [(900,.box [.val c0_0,.val c0_1])]⟩) (fun i=>i≤l.length∧∀ k (hk:k < i) (hk':k < l.length),p l[k]=false) (fun i=>l.length - i) 0 (Le.mk _ _ ?_ ?_) ?_ ?_
 · simp [upd,num]
 · simp
 · simp
 · rintro i ⟨hi,hne⟩
   simp [num]
   refine i7 (fun h1=>?_) (fun h1=>?_)
   · have e1:(l.map j5)[i]?.getD .nilptr=j5 l[i]:=by simp [List.getElem?_eq_getElem h1]
     simp [num,h1,e1,j5,tx,num,hg]
     refine a12 (ids:=[900]) rfl rfl (by simp) (by decide) (by simp [a7g,z7,H0,A0,G8,A1,t8,z8,G9,o0,C0,I4,I5,k9,r8,r9,m8,A2,t7,n5,G7,z6,t6,s8,E9,F0,a27,a28,Option.getD_some,Option.getD_none,D5,u7,q7,E6,p9,o8,E8,o9,E7,E5,E4,I9,x8,p7,E2,x6,p6,E1,D3,E3,x7,D8,o7,x5,D9,J1,J0,D4,D6,p5,D7,x9,p8,C3,o2,D2,D1,D0,I6,x3,o4,C8,x1,o3,C7,C1,C9,x2,C5,o1,w9,C6,I8,I7,C2,w8,o6,C4,x4,o5,L2,K9,M3,L3,L7,L5,L4,M2,L6,L8,L9,M0,M1,A6,A5,A4,O5,O6,u2,H1,u9,F4,y4,M6,u1,U8,P0,M8,Q3,Q5,Q4,U9,V0,K2,K4,K3,K5,K6,Q0,y6,P9,F5,F6,F7,y7,a3d,G4,z1,U6,U7,J2,O7,O8,Option.map_some,Option.map_none,F8,y8,y0,q8,F2,F3,J4,J3,R0,Q9,K8,G5,G6,K7,Q6,Q7,J6,r6,J7,q9,P4,G3,G2,n0,Q2,Q8,J9,P6,P8,P7,y5,B7,B9,B8,l5,Q1,V2,V1,P1,J8,a0g,P2,r7,G0,G1,y9,F9,l9,w6,l7,w7,l6,M5,R1,R2,A7,A8,H3,H2,F1]) rfl (hp l[i] (List.getElem_mem h1)) ?_
     cases hpi:p l[i] with
     | true=>
      simp [a18,W4]
      rw [a22 h1 hpi (fun k hk=>hne k hk (by omega))];rfl
     | false=>
      simp
      refine LoopNext.mk (i+1) ⟨by omega,fun k hk hk'=>?_⟩ (by omega) (Le.mk _ _ ?_ ?_)
      · by_cases e:k=i
        · subst e;exact hpi
        · exact hne k (by omega) hk'
      · simp [num];exact wrap_i64 (by omega) (by omega)
      · simp
   · have e:i=l.length:=by omega
     subst e
     simp [num,a18,W4]
     rw [a2z (fun k hk=>hne k hk hk)]
theorem a34 (l:List LRule) (g:Nat) (c0_0 c0_1:RV) (p:LRule→Bool) (hl:l.length < 1099511627776) (hg:fnB Tryz.prog g=true)
 (hp:∀ x∈l,f7 Tryz.prog g [.val (j5 x),.box [c0_0,c0_1]] (.ret (.val (.bool (p x))) []) [[c0_0,c0_1]]) :
 f7 Tryz.prog 131 [.val (.list 2 (l.map j5)),.fn g [.box [c0_0,c0_1]]] (.ret (.val (.bool (l.any p))) []) [[c0_0,c0_1]]:=by
 refine a3a mixed ok131 rfl (fun _=>rfl) ?_
 unfold ir131
 rw [b9]
 simp [d9,j4,l0,b7,d8,l0,j4]
 refine a12 (ids:=[900]) rfl rfl (by simp) (by decide) (by simp [a7g,z7,H0,A0,G8,A1,t8,z8,G9,o0,C0,I4,I5,k9,r8,r9,m8,A2,t7,n5,G7,z6,t6,s8,E9,F0,a27,a28,Option.getD_some,Option.getD_none,D5,u7,q7,E6,p9,o8,E8,o9,E7,E5,E4,I9,x8,p7,E2,x6,p6,E1,D3,E3,x7,D8,o7,x5,D9,J1,J0,D4,D6,p5,D7,x9,p8,C3,o2,D2,D1,D0,I6,x3,o4,C8,x1,o3,C7,C1,C9,x2,C5,o1,w9,C6,I8,I7,C2,w8,o6,C4,x4,o5,L2,K9,M3,L3,L7,L5,L4,M2,L6,L8,L9,M0,M1,A6,A5,A4,O5,O6,u2,H1,u9,F4,y4,M6,u1,U8,P0,M8,Q3,Q5,Q4,U9,V0,K2,K4,K3,K5,K6,Q0,y6,P9,F5,F6,F7,y7,a3d,G4,z1,U6,U7,J2,O7,O8,Option.map_some,Option.map_none,F8,y8,y0,q8,F2,F3,J4,J3,R0,Q9,K8,G5,G6,K7,Q6,Q7,J6,r6,J7,q9,P4,G3,G2,n0,Q2,Q8,J9,P6,P8,P7,y5,B7,B9,B8,l5,Q1,V2,V1,P1,J8,a0g,P2,r7,G0,G1,y9,F9,l9,w6,l7,w7,l6,M5,R1,R2,A7,A8,H3,H2,F1]) rfl (a6g l g c0_0 c0_1 p hl hg hp) ?_
 simp [num,a18,W4]
 exact b3b l p
end Go.Proofs
end
section
namespace Go.Proofs
open Go.PW Go.KP
attribute [local simp] RV.cells RV.one PV.cells PV.solid PV.one w5 i6 n7 n6 RV.ofCells elems PV.killL
variable [GH]
theorem c2l (t:Tx) (ht:t.length < 1099511627776):f7 Tryz.prog 146 [.val (tx t)] (.ret (.val (.bool (Y8 t))) []) []:=by
 refine f9 mixed ok146 rfl (fun _=>rfl) ?_
 unfold ir146
 rw [b9]
 have hmin:(if (25:Int) < (t.length:Int) then (25:Int) else (t.length:Int))=((min t.length 25:Nat):Int):=by split<;>omega
 simp [d9,j4,l0,b7,d8,tx,b6,hmin]
 refine l4 (X:=Nat) (fun i=>⟨u0 [(0,.val (tx t)),(6,.val (num ((min t.length 25:Nat):Int))),(7,.val (num i))],u4 []⟩) (fun i=>i≤min t.length 25∧R5 v6 a0e (t.take i)=true) (fun i=>min t.length 25 - i) 0 (Le.mk _ _ ?_ ?_) ?_ ?_
 · simp [upd,tx,num]
 · simp
 · simp [R5]
 · rintro i ⟨hi,hall⟩
   generalize hm:min t.length 25=m at *
   simp [num]
   refine i7 (fun h3'=>?_) (fun h3'=>?_)
   · have h3:i < t.length:=by omega
     have hstep:=a0s (p:=v6) (q:=a0e) (fun _ h=>a4j h) t i h3
     rw [hall,Bool.true_and] at hstep
     have U4:=Z1 (p:=v6) (q:=a0e) t i h3
     have hres:(if i=0 then v6 t[i] else a0e t[i])=false→Y8 t=false:=fun h=>by unfold Y8;rw [U4 h,Bool.and_false]
     have e3:((t[i].toNat:Int)=45)↔t[i].toNat=45:=by omega
     simp [tx,num,b6,f6,h3]
     refine d7 rfl rfl (.inl rfl) (a7x t[i]) ?_
     cases hlow:v6 t[i] with
     | true=>
      simp
      refine LoopNext.mk (i+1) ⟨by omega,by rw [hstep];split;exact hlow;exact a4j hlow⟩ (by omega) (Le.mk _ _ ?_ ?_)
      · simp [tx,num];exact wrap_i64 (by omega) (by omega)
      · simp
     | false=>
      by_cases h45:t[i].toNat=45
      · by_cases h0:i=0
        · have hr:=hres (by rw [if_pos h0];exact hlow)
          simp [tx,num,b6,f6,h3,e3,h45,(eq_true h0:(i=0)=True),hr]
        · simp [tx,num,b6,f6,h3,e3,h45,h0]
          refine LoopNext.mk (i+1) ⟨by omega,by rw [hstep,if_neg h0];simp [a0e,h45]⟩ (by omega) (Le.mk _ _ ?_ ?_)
          · simp [tx,num];exact wrap_i64 (by omega) (by omega)
          · simp
      · have hr:=hres (by
         split
         · exact hlow
         · simp [a0e,hlow,h45])
        simp [tx,num,b6,f6,h3,e3,h45,hr]
   · have e:i=m:=by omega
     subst e
     simp [tx,b6]
     refine d7 rfl rfl (.inl rfl) (a26 t.length 1 24) ?_
     by_cases hlen:1≤t.length∧t.length≤24
     · rw [show decide ((1:Int)≤t.length∧(t.length:Int)≤24)=true from decide_eq_true (by omega)]
       have he:t.take i=t:=List.take_of_length_le (by omega)
       rw [he] at hall
       have:Y8 t=true:=by unfold Y8;rw [hall,decide_eq_true hlen];rfl
       simp [this]
     · rw [show decide ((1:Int)≤t.length∧(t.length:Int)≤24)=false from decide_eq_false (by omega)]
       have:Y8 t=false:=by unfold Y8;rw [decide_eq_false hlen];rfl
       simp [this]
theorem c0h (w:Tx) (hw:w.length < 4294967281):f7 Tryz.prog 192 [.val (tx w)] (.ret (.val (.bool (!T5 w))) []) []:=by
 refine f9 mixed ok192 rfl (fun _=>rfl) ?_
 unfold ir192
 rw [b9]
 have e0:((⟨#[]⟩:ByteArray))=bs []:=rfl
 by_cases h0:w=[]
 · subst h0
   simp [d9,j4,l0,b7,d8,tx,T5,bs]
 · simp [d9,j4,l0,b7,d8,tx,e0,u5,h0]
   refine d7 rfl rfl (.inl rfl) (b02 w [32,9,59] hw (by simp) (by simp) (by decide)) ?_
   have he:(!T5 w)=B3 w [32,9,59]:=by
    rw [a58,decide_eq_true h0,Bool.true_and]
    unfold B3
    rw [List.not_all_eq_any_not]
    congr 1
    funext c
    unfold a0i
    rw [Bool.not_not]
    have k1:(c.toNat=32)↔c=32:=⟨fun h=>UInt8.toNat_inj.1 h,fun h=>by rw [h];rfl⟩
    have k2:(c.toNat=9)↔c=9:=⟨fun h=>UInt8.toNat_inj.1 h,fun h=>by rw [h];rfl⟩
    have k3:(c.toNat=59)↔c=59:=⟨fun h=>UInt8.toNat_inj.1 h,fun h=>by rw [h];rfl⟩
    simp [k1,k2,k3]
   rw [he]
   simp
theorem c2i (r:LRule) (hb:R6 1048576 r):f7 Tryz.prog 130 [.val (j5 r)] (.ret (.val (.bool (P3 r))) []) []:=by
 refine f9 mixed ok130 rfl (fun _=>rfl) ?_
 unfold ir130
 rw [b9]
 have hn:=hb.1
 have hwl:=hb.2.1
 simp [d9,j4,l0,b7,d8,j5,tx]
 refine d7 rfl rfl (.inl rfl) (c2l r.name (by omega)) ?_
 unfold P3
 cases hrn:Y8 r.name with
 | false=>simp
 | true=>
  by_cases h8:r.words.length≤8
  · have h8':(r.words.length:Int)≤8:=by omega
    simp [tx,h8,h8']
    refine d7 rfl rfl (.inl rfl) (a6i r.words 192 (fun w=>!T5 w) (by omega) (by kernel_rfl) (fun w hw=>c0h w (by have:=hb.2.2 w hw;omega))) ?_
    have he:(r.words.any fun w=>!T5 w)=!r.words.all T5:=by rw [List.not_all_eq_any_not]
    rw [he]
    simp [h8]
  · have h8':¬ (r.words.length:Int)≤8:=by omega
    simp [tx,h8,h8']
theorem i_rule1 (r:LRule) (name:Tx):f7 Tryz.prog 260 [.val (j5 r),.box [tx name]] (.ret (.val (.bool (decide (r.name=name)))) []) [[tx name]]:=by
 refine a3a mixed ok260 rfl (fun _=>rfl) ?_
 unfold ir260
 rw [b9]
 simp [d9,j4,l0,b7,d8,j5,tx,num,u5,a18,W4]
theorem c2j (p:LPolicy) (name:Tx) (hl:p.rules.length < 1099511627776):f7 Tryz.prog 195 [.val (j8 p),.val (tx name)] (.ret (.val (.list 1 ((O3 p.rules name).map tx))) []) []:=by
 refine f9 mixed ok195 rfl (fun _=>rfl) ?_
 unfold ir195
 rw [b9]
 simp [d9,j4,l0,b7,d8,j8,tx]
 refine a12 (ids:=[3]) rfl rfl (by simp) (by decide) (by simp [a7g,z7,H0,A0,G8,A1,t8,z8,G9,o0,C0,I4,I5,k9,r8,r9,m8,A2,t7,n5,G7,z6,t6,s8,E9,F0,a27,a28,Option.getD_some,Option.getD_none,D5,u7,q7,E6,p9,o8,E8,o9,E7,E5,E4,I9,x8,p7,E2,x6,p6,E1,D3,E3,x7,D8,o7,x5,D9,J1,J0,D4,D6,p5,D7,x9,p8,C3,o2,D2,D1,D0,I6,x3,o4,C8,x1,o3,C7,C1,C9,x2,C5,o1,w9,C6,I8,I7,C2,w8,o6,C4,x4,o5,L2,K9,M3,L3,L7,L5,L4,M2,L6,L8,L9,M0,M1,A6,A5,A4,O5,O6,u2,H1,u9,F4,y4,M6,u1,U8,P0,M8,Q3,Q5,Q4,U9,V0,K2,K4,K3,K5,K6,Q0,y6,P9,F5,F6,F7,y7,a3d,G4,z1,U6,U7,J2,O7,O8,Option.map_some,Option.map_none,F8,y8,y0,q8,F2,F3,J4,J3,R0,Q9,K8,G5,G6,K7,Q6,Q7,J6,r6,J7,q9,P4,G3,G2,n0,Q2,Q8,J9,P6,P8,P7,y5,B7,B9,B8,l5,Q1,V2,V1,P1,J8,a0g,P2,r7,G0,G1,y9,F9,l9,w6,l7,w7,l6,M5,R1,R2,A7,A8,H3,H2,F1,tx]) rfl (a6h p.rules 260 (tx name) (fun r=>decide (r.name=name)) hl (by kernel_rfl) (fun x _=>i_rule1 x name)) ?_
 unfold O3
 rcases a7u p.rules (fun r=>decide (r.name=name)) with ⟨k1,k2⟩ | ⟨k,hk,k1,k2⟩
 · rw [k1,k2]
   simp [num]
 · rw [k1,k2]
   obtain ⟨r,hrk⟩:∃ r,p.rules[k]=r:=⟨_,rfl⟩
   rw [hrk]
   have hk0:¬ (k:Int) < 0:=by omega
   simp [num,hk,hrk,hk0,j5]
structure MS (st:St) (rt:Tx) (acc:List Tx) (rules:List LRule):Prop where
 e1:st.env 1=.ptr 1 0
 e2:st.env 2=.ptr 2 0
 m2:st.mem 2=.box [.val (tx []),.emp 1,.emp 2]
 m1:st.mem 1=.box [.val (tx rt),b8x 1 55 acc,.val (.list 2 (rules.map j5))]
 m55:acc≠[]→st.mem 55=.row 9 1 (acc.map tx)
theorem b1a (rules:List LRule) (rt:Tx) (acc:List Tx) (st:St) (h:MS st rt acc rules):EC Tryz.prog ir133_from4 st (K:=⟨Y9 [.c 2 true 3] (.val (j8 ⟨rt,acc,rules⟩))⟩):=by
 unfold ir133_from4
 have m1:=h.m1
 have m55:=h.m55
 cases acc with
 | nil=>
  simp [h.e1,h.e2,h.m2,m1,tx]
  refine (b2n (id:=2) (n:=3) (cs:=[.val (tx rt),.emp 1,.val (.list 2 (rules.map j5))]) (rs:=[tx rt,.list 1 [],.list 2 (rules.map j5)]) ?_ ?_ ?_ rfl (by omega)).trans ?_
  · simp [h.e2]
  · simp
    rfl
  · simp [PV.frzL,PV.frz,PV.plL,PV.pl,a0t,tx]
  · simp [n7,i6,j8]
 | cons a acc=>
  have m55:=m55 (by simp)
  simp [h.e1,h.e2,h.m2,m1,m55,tx]
  refine (b2n (id:=2) (n:=3) (cs:=[.val (tx rt),.own 55,.val (.list 2 (rules.map j5))]) (rs:=[tx rt,.list 1 ((a :: acc).map tx),.list 2 (rules.map j5)]) ?_ ?_ ?_ rfl (by omega)).trans ?_
  · simp [h.e2]
  · simp
    rfl
  · simp [PV.frzL,PV.frz,PV.plL,PV.pl,a0t,m55,tx]
  · simp [n7,i6,j8]
theorem a2m (rules:List LRule) (hr:bdS 1048576 (R6 1048576) rules) (rt:Tx) (st:St) (h:MS st rt [] rules):EC Tryz.prog ir133_from3 st (K:=⟨Y9 [.c 2 true 3] (.val (j8 ⟨rt,a0l rules,rules⟩))⟩):=by
 unfold ir133_from3
 have hrl:=hr.1
 have m1:=h.m1
 simp only [b9y] at m1
 simp [h.e1,m1]
 refine d7 rfl rfl (.inl rfl) (c2j ⟨rt,[],rules⟩ W9 (by show rules.length < _;omega)) ?_
 have hws:bdS 1048576 (fun t=>t.length≤1048576) (O3 rules W9):=by
  unfold O3
  split
  · rename_i r hf
    exact (hr.2 r (List.mem_of_find?_eq_some hf)).2
  · exact ⟨by simp,by simp⟩
 unfold a0l
 simp only
 generalize O3 rules W9=ws at *
 have hwl:=hws.1
 simp [num]
 refine l4 (X:=Nat) (fun i=>⟨u0 [(1,.ptr 1 0),(2,.ptr 2 0),(26,.val (.list 1 (ws.map tx))),(27,.val (num ws.length)),(28,.val (num i))],u4 [(2,.box [.val (tx []),.emp 1,.emp 2]),(1,.box [.val (tx rt),b8x 1 55 ((ws.take i).foldl v8 []),.val (.list 2 (rules.map j5))]),(55,c1i 9 1 tx ((ws.take i).foldl v8 []))]⟩) (fun i=>i≤ws.length) (fun i=>ws.length - i) 0 (Le.mkD _ _ ?_ ?_) ?_ ?_
 · simp [upd,num,h.e1,h.e2]
 · simp [h.m2,m1]
 · simp
 · intro i hi
   simp [num]
   refine i7 (fun h1=>?_) (fun h1=>?_)
   · have e1:(ws.map tx)[i]?.getD .nilptr=tx ws[i]:=by simp [List.getElem?_eq_getElem h1]
     have hwi:ws[i].length≤1048576:=hws.2 _ (List.getElem_mem h1)
     have hst:=a33 v8 [] ws i h1
     have hal:((ws.take i).foldl v8 []).length≤4:=a36 _ _ (by simp)
     generalize (ws.take i).foldl v8 []=acc at *
     simp [num,h1,e1,tx]
     refine a4x rfl rfl (fun _=>rfl) rfl (.inl rfl) (i_clean ws[i] (by omega)) ?_
     rw [b1k]
     cases hc:a6d ws[i] with
     | none=>
      have hu:v8 acc ws[i]=acc:=by unfold v8;rw [hc]
      rw [hu] at hst
      simp [S5]
      refine LoopNext.mk (i+1) (by omega) (by omega) (Le.mk _ _ ?_ ?_)
      · simp [num];exact wrap_i64 (by omega) (by omega)
      · simp [hst,tx]
     | some u=>
      cases acc with
      | nil=>
       have hu:v8 [] ws[i]=[u]:=by unfold v8;rw [hc];simp
       rw [hu] at hst
       simp [S5]
       refine d7 rfl rfl (.inl rfl) (a4n [] u (by simp)) ?_
       simp [tx]
       refine LoopNext.mk (i+1) (by omega) (by omega) (Le.mk _ _ ?_ ?_)
       · simp [num];exact wrap_i64 (by omega) (by omega)
       · simp [hst,tx]
      | cons a acc=>
       simp [S5]
       refine d7 rfl rfl (.inr rfl) (a4n (a :: acc) u (by simp at hal ⊢;omega)) ?_
       by_cases hm:u∈a :: acc
       · have hu:v8 (a :: acc) ws[i]=a :: acc:=by unfold v8;rw [hc];simp [hm]
         rw [hu] at hst
         rw [decide_eq_true hm]
         simp
         refine LoopNext.mk (i+1) (by omega) (by omega) (Le.mk _ _ ?_ ?_)
         · simp [num];exact wrap_i64 (by omega) (by omega)
         · simp [hst,tx]
       · rw [decide_eq_false hm]
         by_cases h4:acc.length+1 < 4
         · have hu:v8 (a :: acc) ws[i]=(a :: acc)++[u]:=by unfold v8;rw [hc];simp only;rw [if_pos ⟨hm,by simp;omega⟩]
           rw [hu] at hst
           have h4':(acc.length:Int)+1 < 4:=by omega
           simp [h4,h4',tx]
           refine ⟨by omega,by omega,LoopNext.mk (i+1) (by omega) (by omega) (Le.mk _ _ ?_ ?_)⟩
           · simp [num];exact wrap_i64 (by omega) (by omega)
           · simp [hst,tx]
         · have hu:v8 (a :: acc) ws[i]=a :: acc:=by unfold v8;rw [hc];simp only;rw [if_neg (fun h=>h4 (by simpa using h.2))]
           rw [hu] at hst
           have h4':¬ (acc.length:Int)+1 < 4:=by omega
           simp [h4,h4']
           refine LoopNext.mk (i+1) (by omega) (by omega) (Le.mk _ _ ?_ ?_)
           · simp [num];exact wrap_i64 (by omega) (by omega)
           · simp [hst,tx]
   · have e9:i=ws.length:=by omega
     subst e9
     simp
     generalize ws.foldl v8 []=acc
     refine b1a rules rt acc _ ⟨?_,?_,?_,?_,?_⟩
     · simp
     · simp
     · simp
     · simp
     · intro hne
       cases acc with
       | nil=>exact absurd rfl hne
       | cons a acc=>simp
theorem c0g (p:LPolicy) (hr:bdS 1048576 (R6 1048576) p.rules):f7 Tryz.prog 133 [.val (j8 p)] (.ret (.val (j8 ⟨a0m p.rules,a0l p.rules,p.rules⟩)) []) []:=by
 refine f9 mixed ok133 rfl (fun _=>rfl) ?_
 unfold ir133
 rw [b9]
 have hrl:=hr.1
 simp [d9,j4,l0,b7,d8,j8,tx]
 refine d7 rfl rfl (.inl rfl) (c2j ⟨[],[],p.rules⟩ a01 (by show p.rules.length < _;omega)) ?_
 have hws:bdS 1048576 (fun t=>t.length≤1048576) (O3 p.rules a01):=by
  unfold O3
  split
  · rename_i r hf
    exact (hr.2 r (List.mem_of_find?_eq_some hf)).2
  · exact ⟨by simp,by simp⟩
 have hrt:a0m p.rules=a10 (O3 p.rules a01):=rfl
 rw [hrt]
 simp only
 generalize O3 p.rules a01=ws at *
 cases ws with
 | nil=>
  rw [show a10 []=[] from rfl]
  simp
  refine a2m p.rules hr [] _ ⟨?_,?_,?_,?_,?_⟩<;>simp [tx,bs]
 | cons w ws=>
  have hwl:w.length≤1048576:=hws.2 w (by simp)
  have e1:a10 (w :: ws)=if a0d w then w else []:=rfl
  have hp:(0:Int) < (ws.length:Int)+1:=by omega
  rw [e1]
  simp [hp,tx]
  refine d7 rfl rfl (.inl rfl) (c2n w (by omega)) ?_
  cases hlw:a0d w with
  | false=>
   rw [if_neg (by simp)]
   simp
   refine a2m p.rules hr [] _ ⟨?_,?_,?_,?_,?_⟩<;>simp [tx,bs]
  | true=>
   rw [if_pos rfl]
   simp [hp,tx]
   refine a2m p.rules hr w _ ⟨?_,?_,?_,?_,?_⟩<;>simp [tx,bs]
theorem b5h (o r:LRule):f7 Tryz.prog 132 [.val (j5 o),.box [tx r.name,.list 1 (r.words.map tx)]] (.ret (.val (.bool (decide (o.name=r.name)))) []) [[tx r.name,.list 1 (r.words.map tx)]]:=by
 refine a3a mixed ok132 rfl (fun _=>rfl) ?_
 unfold ir132
 rw [b9]
 simp [d9,j4,l0,b7,d8,j5,tx,num,u5,a18,W4]
theorem b7j (p:LPolicy) (hb:M4 1048576 p) (st:St) (e1:st.env 1=.ptr 1 0) (m1:st.mem 1=.box [.val (tx p.reportTo),.val (.list 1 (p.uris.map tx)),.val (.list 2 (p.rules.map j5))]):EC Tryz.prog ir74_from3 st (K:=⟨Y9 [.t 2] (.val (.bool (decide (p.reportTo=a0m p.rules) && decide (p.uris=a0l p.rules))))⟩):=by
 unfold ir74_from3
 have hul:=hb.2.1.1
 have hl4:=a36 (O3 p.rules W9) [] (by simp)
 simp [e1,m1,i6]
 refine d7 rfl rfl (.inl rfl) (c0g p hb.2.2) ?_
 simp [j8,tx,u5,e1,m1,PV.kill]
 by_cases hr:a0m p.rules=p.reportTo
 · rw [hr]
   simp [e1,m1,PV.kill]
   refine d7 rfl rfl (.inl rfl) (b5j (a0l p.rules) p.uris (by unfold a0l;omega) (by omega)) ?_
   have:decide (a0l p.rules=p.uris)=decide (p.uris=a0l p.rules):=by rw [Bool.eq_iff_iff];simp [eq_comm]
   rw [this]
   simp
 · have hr2:¬ p.reportTo=a0m p.rules:=fun h=>hr h.symm
   simp [hr,hr2]
theorem b7p (p:LPolicy) (hb:M4 1048576 p):f7 Tryz.prog 74 [.val (j8 p)] (.ret (.val (.bool (J5 p))) []) []:=by
 refine f9 mixed ok74 rfl (fun _=>rfl) ?_
 unfold ir74
 rw [b9]
 have hrl:=hb.2.2.1
 by_cases h8:p.rules.length≤8
 rotate_left
 · have h8':(8:Int) < p.rules.length:=by omega
   have:J5 p=false:=by unfold J5;rw [decide_eq_false h8];rfl
   simp [d9,j4,l0,b7,d8,j8,tx,h8',this]
 have h8':¬ (8:Int) < p.rules.length:=by omega
 simp [d9,j4,l0,b7,d8,j8,tx,h8']
 refine l4 (X:=Nat) (fun i=>⟨u0 [(1,.ptr 1 0),(11,.val (.list 2 (p.rules.map j5))),(12,.val (num p.rules.length)),(13,.val (num i))],u4 [(1,.box [.val (tx p.reportTo),.val (.list 1 (p.uris.map tx)),.val (.list 2 (p.rules.map j5))])]⟩) (fun i=>i≤p.rules.length∧((p.rules.take i).all P3 && a2y ((p.rules.map fun r=>r.name).take i))=true) (fun i=>p.rules.length - i) 0 (Le.mk _ _ ?_ ?_) ?_ ?_
 · simp [upd,num]
 · simp [tx]
 · simp [a2y]
 · rintro i ⟨hi,hall⟩
   simp [num]
   refine i7 (fun h1=>?_) (fun h1=>?_)
   · have hbr:=hb.2.2.2 _ (List.getElem_mem h1)
     have hst:(p.rules.take (i+1)).all P3=((p.rules.take i).all P3 && P3 p.rules[i]):=O0 _ _ _ h1
     have hst2:=a6a (p.rules.map fun r=>r.name) i (by simpa using h1)
     simp only [List.getElem_map] at hst2
     have U4:=a5s p i h1
     rw [Bool.and_eq_true] at hall
     rw [hall.1,Bool.true_and] at hst
     rw [hall.2,Bool.true_and] at hst2
     obtain ⟨r,hrk⟩:∃ r,p.rules[i]=r:=⟨_,rfl⟩
     rw [hrk] at hbr hst hst2 U4
     simp [num,h1,hrk,j5,tx,PV.kill,i6]
     refine d7 rfl rfl (.inl rfl) (c2i r hbr) ?_
     cases hn:P3 r with
     | false=>
      have hb2:=U4 (by rw [hn];rfl)
      simp [hb2]
     | true=>
      have hi0:(0:Int)≤(i:Int):=by omega
      have hi1:(i:Int)≤(p.rules.length:Int):=by omega
      simp [num,tx,PV.kill,hi0,hi1]
      have hcf:=a34 (p.rules.take i) 132 (tx r.name) (.list 1 (r.words.map tx)) (fun o=>decide (o.name=r.name)) (by simp;omega) (by kernel_rfl) (fun o _=>b5h o r)
      rw [List.map_take] at hcf
      refine a12 (ids:=[4]) rfl rfl (by simp) (by decide) (by simp [a7g,z7,H0,A0,G8,A1,t8,z8,G9,o0,C0,I4,I5,k9,r8,r9,m8,A2,t7,n5,G7,z6,t6,s8,E9,F0,a27,a28,Option.getD_some,Option.getD_none,D5,u7,q7,E6,p9,o8,E8,o9,E7,E5,E4,I9,x8,p7,E2,x6,p6,E1,D3,E3,x7,D8,o7,x5,D9,J1,J0,D4,D6,p5,D7,x9,p8,C3,o2,D2,D1,D0,I6,x3,o4,C8,x1,o3,C7,C1,C9,x2,C5,o1,w9,C6,I8,I7,C2,w8,o6,C4,x4,o5,L2,K9,M3,L3,L7,L5,L4,M2,L6,L8,L9,M0,M1,A6,A5,A4,O5,O6,u2,H1,u9,F4,y4,M6,u1,U8,P0,M8,Q3,Q5,Q4,U9,V0,K2,K4,K3,K5,K6,Q0,y6,P9,F5,F6,F7,y7,a3d,G4,z1,U6,U7,J2,O7,O8,Option.map_some,Option.map_none,F8,y8,y0,q8,F2,F3,J4,J3,R0,Q9,K8,G5,G6,K7,Q6,Q7,J6,r6,J7,q9,P4,G3,G2,n0,Q2,Q8,J9,P6,P8,P7,y5,B7,B9,B8,l5,Q1,V2,V1,P1,J8,a0g,P2,r7,G0,G1,y9,F9,l9,w6,l7,w7,l6,M5,R1,R2,A7,A8,H3,H2,F1,tx]) rfl hcf ?_
      have hany:((p.rules.take i).any fun o=>decide (o.name=r.name))=decide (r.name∈(p.rules.map fun r=>r.name).take i):=by
       rw [Bool.eq_iff_iff,← List.map_take]
       simp only [List.any_eq_true,decide_eq_true_eq,List.mem_map]
      rw [hany]
      by_cases hu:r.name∈(p.rules.map fun r=>r.name).take i
      · have hb2:=U4 (by rw [decide_eq_false (fun h=>h hu),Bool.and_false])
        rw [decide_eq_true hu]
        simp [hb2]
      · rw [decide_eq_true hu] at hst2
        rw [decide_eq_false hu]
        simp
        refine LoopNext.mk (i+1) ⟨by omega,by rw [hst,hst2,hn];rfl⟩ (by omega) (Le.mk _ _ ?_ ?_)
        · simp [num];exact wrap_i64 (by omega) (by omega)
        · simp [tx]
   · have e:i=p.rules.length:=by omega
     subst e
     rw [List.take_length,List.take_of_length_le (by simp)] at hall
     rw [a65 p hall h8]
     simp
     refine b7j p hb _ ?_ ?_<;>simp [num,tx]
end Go.Proofs
end
