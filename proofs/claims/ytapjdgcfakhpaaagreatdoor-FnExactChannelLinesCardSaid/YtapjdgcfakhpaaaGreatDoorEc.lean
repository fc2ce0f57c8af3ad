/- Ec: merged out of KLc, KIm, KIn. -/
import Derived.Test.YtapjdgcfakhpaaaGreatDoorEa
import Derived.Shelf.Strings.IndexAnyAll
import Derived.Laws.Runes
import Derived.Laws.RangeAny
import Derived.Lib.QuoteLoop
import Derived.WalkMore
import Derived.Lib.OthersKept
import Derived.Deep.QuietTactic
import Derived.BigQuiet
import Derived.Deep.DeepBigQuietO
import Derived.Shelf.RegionOpenPlain
import Derived.Test.YtapjdgcfakhpaaaGreatDoorCa
import Derived.Test.YtapjdgcfakhpaaaGreatDoorAc
import Derived.Test.YtapjdgcfakhpaaaGreatDoorBa
import Derived.Test.YtapjdgcfakhpaaaGreatDoorEb
import Derived.Test.YtapjdgcfakhpaaaGreatDoorCb
set_option linter.unusedSectionVars false
set_option linter.unusedSimpArgs false
set_option linter.unusedVariables false
set_option maxRecDepth 100000
section
namespace Go.Proofs
open Go.Shelf Go.RowKit Go.Lib
variable {P:Program} {ρ:Ren}
set_option maxHeartbeats 8000000 in
set_option maxRecDepth 1000000 in
theorem a9p (L:Lays.n152 P ρ) (s:ByteArray) (w:World) (hs:∀ (j:Nat) b,s.data.toList[j]?=some b→b.toNat < 128) :
 Calls P (ρ.f 152) #[.string s,.int .i32 65533] w fun e w'=>e=.returned (.int .i64 (-1))∧∃ pos,w'=w.iter s pos:=by
 have HA:Aside (∀ (j:Nat) b,s.data.toList[j]?=some b→b.toNat < 128):=hs
 clear hs
 have t3:=L.t3;have a3:=L.a3;have z3:=L.z3;have v3:=L.v3
 have t4:=L.t4;have a4:=L.a4;have z4:=L.z4;have v4:=L.v4
 have t5:=L.t5;have a5:=L.a5;have z5:=L.z5;have v5:=L.v5
 have t9:=L.t9;have a9:=L.a9;have z9:=L.z9;have v9:=L.v9
 have t21:=L.t21;have a21:=L.a21;have z21:=L.z21;have v21:=L.v21
 go_enter L.f152,Body.n152_ntmps ρ
 go_wp2
 go_loopg [5,6] s.size (fun g _ _ wx=>∃ i:Nat,i+g=s.size∧wx=w.iter s i)
 case atStart=>exact ⟨0,by omega,rfl⟩
 case round=>
  obtain ⟨i,hig,rfl⟩:=hrel
  cases gk with
  | zero=>
   obtain rfl:i=s.size:=by omega
   have hnx:=run_next_end (P:=P) w s s.size
   go_wp2
   go_ret
   exact ⟨rfl,_,rfl⟩
  | succ g=>
   have hi:i < s.size:=by omega
   obtain ⟨x,hx⟩:∃ x:UInt8,s[i]'hi=x:=⟨_,rfl⟩
   have hxl:s.data.toList[i]?=some x:=by rw [← hx];exact Lib.data_getElem? s i hi
   have hx128:x.toNat < 128:=HA.out i x hxl
   have hnx:=fun ty=>run_next_ascii (P:=P) w s i ty hi (by rw [hx];exact hx128)
   rw [hx] at hnx
   clear hxl hx
   have hne:((x.toNat:Int) == 65533)=false:=beq_eq_false_iff_ne.2 (by omega)
   go_wp2
   go_roundg g
   case measure=>omega
   case rel=>exact ⟨i+1,by omega,rfl⟩
theorem c2f (r:Int) (hv:Lib.validRune r=true) (h128:128≤r):1≤(Utf8.encode r).size∧(Utf8.encode r).size≤4∧∀ h:(Utf8.encode r).size - 1 < (Utf8.encode r).size,128≤((Utf8.encode r)[(Utf8.encode r).size - 1]'h).toNat:=by
 have:=encode_facts r (by rw [Go.validRune_eq];exact hv) h128
 exact ⟨by omega,this.2.1,this.2.2⟩
set_option maxHeartbeats 8000000 in
set_option maxRecDepth 1000000 in
theorem b0x (L:Lays.n152 P ρ) (s:ByteArray) (r:Int) (w:World) (h128:128≤r) (hne:r≠65533) (hv:Lib.validRune r=true) (hsz:s.size < 1000) (hs:∀ b∈s.data.toList,b.toNat < 128) :
 Calls P (ρ.f 152) #[.string s,.int .i32 r] w fun e w'=>e=.returned (.int .i64 (-1))∧Below w.heap.size w w':=by
 have HA:Aside (∀ b∈s.data.toList,b.toNat < 128):=hs
 clear hs
 obtain ⟨k1,k4,klast⟩:=c2f r hv h128
 have mixed:=L.mixed
 obtain ⟨t,ht⟩:∃ t,Utf8.encode r=t:=⟨_,rfl⟩
 rw [ht] at k1 k4 klast
 have t3:=L.t3;have a3:=L.a3;have z3:=L.z3;have v3:=L.v3
 have t4:=L.t4;have a4:=L.a4;have z4:=L.z4;have v4:=L.v4
 have t5:=L.t5;have a5:=L.a5;have z5:=L.z5;have v5:=L.v5
 have t9:=L.t9;have a9:=L.a9;have z9:=L.z9;have v9:=L.v9
 have t21:=L.t21;have a21:=L.a21;have z21:=L.z21;have v21:=L.v21
 have e119:∀ args w,(callFunc (ρ.f 119) args).run P w=.ok (.enter (ρ.f 119) args) w:=enters_of L.f119 (by kernel_rfl) rfl
 have e137:∀ args w,(callFunc (ρ.f 137) args).run P w=.ok (.enter (ρ.f 137) args) w:=enters_of L.f137 (by kernel_rfl) rfl
 have hneb:(r == 65533)=false:=beq_eq_false_iff_ne.2 hne
 have h128b:¬ r < 128:=by omega
 have hcv:∀ (w:World),(convert (ρ.t 21) (ρ.t 9) (.int .i32 r)).run P w=.ok (.string t) w:=fun w=>by
  rw [run_convert_int_string w _ _ _ _ (by rw [t21];rfl) t9,ht]
 go_enter L.f152,Body.n152_ntmps ρ
 go_wp2_with (go_at_fn (ρ.f 119);refine (Any.utf8_ValidRune { L with } _ _).mono ?_;rintro e w' ⟨rfl,hw⟩;rw [hw,hv])
 go_step3
 go_wp2
 go_loopg [9,10] 0 (fun g s9 s10 wx=>s9=.int .i64 ((t.size:Int) - 1)∧s10=.int .i64 0∧wx=w)
 case atStart=>exact ⟨rfl,rfl,rfl⟩
 case round=>
  obtain ⟨rfl,rfl,rfl⟩:=hrel
  by_cases hlt:(t.size:Int) - 1 < (s.size:Int)
  · have hi:t.size - 1 < s.size:=by omega
    have hj:t.size - 1 < t.size:=by omega
    have e1:((t.size:Int) - 1).toNat=t.size - 1:=by omega
    have q0:(0:Int)≤(t.size:Int) - 1:=by omega
    have q1:(t.size:Int) - 1 < (t.size:Int):=by omega
    obtain ⟨x,hx⟩:∃ x:UInt8,s[t.size - 1]'hi=x:=⟨_,rfl⟩
    obtain ⟨y,hy⟩:∃ y:UInt8,t[t.size - 1]'hj=y:=⟨_,rfl⟩
    have hx1:x.toNat < 128:=HA.out x (by rw [← hx];exact Array.getElem_mem_toList (xs:=s.data) hi)
    have hy1:128≤y.toNat:=by rw [← hy];exact klast hj
    have hxy:((x.toNat:Int) == (y.toNat:Int))=false:=beq_eq_false_iff_ne.2 (by omega)
    have g1:∀ w:World,(Instr.index (ρ.t 9) (.string s) (.int .i64 ((t.size:Int) - 1))).run P w=.ok (.int .u8 (x.toNat:Int)) w:=fun w=>by
     rw [run_index_string w _ _ _ _ t9,dif_pos ⟨q0,hlt⟩]
     congr 3
     rw [← hx];congr 2
    have g2:∀ w:World,(Instr.index (ρ.t 9) (.string t) (.int .i64 ((t.size:Int) - 1))).run P w=.ok (.int .u8 (y.toNat:Int)) w:=fun w=>by
     rw [run_index_string w _ _ _ _ t9,dif_pos ⟨q0,q1⟩]
     congr 3
     rw [← hy];congr 2
    go_wp2
    go_step3
    go_wp2
    go_quiet_o (fail)
    go_wp2
    have hix:Lib.indexByte (s.extract t.size s.size).data.toList y=-1:=by
     rw [← Lib.firstIdx_eq]
     exact firstIdx_ascii s _ _ y (fun b hb=>HA.out b hb) hy1
    have hback:((y.toNat:Int)).toNat.toUInt8=y:=by simp
    have hcall:∀ w:World,Calls P (ρ.f 137) #[.string (s.extract t.size s.size),.int .u8 (y.toNat:Int)] w fun e w'=>e=.returned (.int .i64 (-1))∧w'=w:=fun w=>by
     refine (Any.strings_IndexByte { L with } (s.extract t.size s.size) (y.toNat:Int) w).mono ?_
     rintro e w' ⟨rfl,hw⟩
     rw [hback,hix];exact ⟨rfl,hw⟩
    have hwr:IntKind.i64.wrap (t.size:Int)=(t.size:Int):=Go.wrap_small _ (by omega) (by omega)
    have q3:(t.size:Int)≤(s.size:Int):=by omega
    go_big_quiet_o (first | exact (hcall _).mono fun _ _ h=>⟨h.1,_,h.2⟩)
    go_wp2
    simp only [Exit.then,Exit.inBlock,Exit.noGoto]
    go_ret
    exact ⟨rfl,⟨rfl,rfl,rfl,Nat.le_refl _,fun _ _=>rfl⟩⟩
  · go_wp2
    go_ret
    exact ⟨rfl,Below.refl _ _⟩
theorem c2g (s:ByteArray) (pos:Nat) (h:pos < s.size) (ha:128≤(s[pos]'h).toNat):pos+(Utf8.decode s pos).2≤s.size∧∀ j,pos≤j→j < pos+(Utf8.decode s pos).2→128≤(s.get! j).toNat:=by
 have h0:s.get! (pos+0)=s[pos]'h:=get_at s pos h
 have hn:¬ (s[pos]'h).toNat < 128:=by omega
 have key:∀ n,(1≤n∧n≤4)→(2≤n→pos+1 < s.size∧(s.get! (pos+1)).toNat / 64=2)→(3≤n→pos+2 < s.size∧(s.get! (pos+2)).toNat / 64=2)→(4≤n→pos+3 < s.size∧(s.get! (pos+3)).toNat / 64=2) →
  pos+n≤s.size∧∀ j,pos≤j→j < pos+n→128≤(s.get! j).toNat:=by
  intro n hn4 q1 q2 q3
  constructor
  · by_cases c1:4≤n
    · have:=(q3 c1).1;omega
    · by_cases c2:3≤n
      · have:=(q2 c2).1;omega
      · by_cases c3:2≤n
        · have:=(q1 c3).1;omega
        · omega
  · intro j hj hjn
    have:j=pos+0∨j=pos+1∨j=pos+2∨j=pos+3:=by omega
    rcases this with rfl | rfl | rfl | rfl
    · show 128≤(s.get! (j+0)).toNat
      rw [h0];exact ha
    · have:=(q1 (by omega)).2;omega
    · have:=(q2 (by omega)).2;omega
    · have:=(q3 (by omega)).2;omega
 unfold Utf8.decode
 simp only [h0,hn,if_false]
 repeat' split
 all_goals (first
  | (refine key 1 (by omega) (by omega) (by omega) (by omega))
  | (rename_i hc _;simp only [Bool.and_eq_true,decide_eq_true_eq,beq_iff_eq] at hc;refine key 2 (by omega) (fun _=>⟨hc.2.1,hc.2.2⟩) (by omega) (by omega))
  | (rename_i hc _;simp only [Bool.and_eq_true,decide_eq_true_eq,beq_iff_eq] at hc;refine key 3 (by omega) (fun _=>⟨hc.1.2.1,hc.1.2.2⟩) (fun _=>⟨hc.2.1,hc.2.2⟩) (by omega))
  | (rename_i hc _;simp only [Bool.and_eq_true,decide_eq_true_eq,beq_iff_eq] at hc;refine key 4 (by omega) (fun _=>⟨hc.1.1.2.1,hc.1.1.2.2⟩) (fun _=>⟨hc.1.2.1,hc.1.2.2⟩) (fun _=>⟨hc.2.1,hc.2.2⟩)))
theorem b93 (s:ByteArray) (pos:Nat):Lib.validRune ((Utf8.decode s pos).1:Int)=true:=by
 have h:=Lib.decodeN_valid (s.size - pos) (s.get! pos).toNat (s.get! (pos+1)).toNat (s.get! (pos+2)).toNat (s.get! (pos+3)).toNat (UInt8.toNat_lt _)
 rw [← Lib.decode_at] at h
 simp only [Lib.validRune,decide_eq_true_eq]
 omega
theorem a82 (L:Lays.n152 P ρ) (chars:ByteArray) (c:Int) (w:World) (h128:128≤c) (hv:Lib.validRune c=true) (hsz:chars.size < 1000) (hs:∀ b∈chars.data.toList,b.toNat < 128) :
 Calls P (ρ.f 152) #[.string chars,.int .i32 c] w fun e w'=>e=.returned (.int .i64 (-1))∧Below w.heap.size w w':=by
 by_cases he:c=65533
 · subst he
   refine (a9p L chars w (fun j b hb=>hs b (List.mem_of_getElem? hb))).mono fun e w' ⟨h1,pos,h2⟩=>⟨h1,?_⟩
   subst h2
   exact (Below.refl _ w).alloc (Nat.le_refl _) _
 · exact b0x L chars c w h128 he hv hsz hs
set_option maxHeartbeats 8000000 in
set_option maxRecDepth 1000000 in
theorem b0y (L:Lays.n153 P ρ) (s chars:ByteArray) (w:World) (h2:2≤chars.size) (h8:s.size≤8) (hsz:chars.size < 1000) (hascii:∀ b∈chars.data.toList,b.toNat < 128) :
 Calls P (ρ.f 153) #[.string s,.string chars] w fun e w'=>e=.returned (.int .i64 (Lib.indexAny s.data.toList chars.data.toList))∧Below w.heap.size w w':=by
 have HA:Aside (∀ b∈chars.data.toList,b.toNat < 128):=hascii
 clear hascii
 have hemp:chars.toList.isEmpty=false:=by
  rw [Lib.toList_data]
  cases h:chars.data.toList with
  | nil=>have:=Lib.size_eq chars;rw [h,List.length_nil] at this;omega
  | cons _ _=>rfl
 have hn1:((chars.size:Int) == 1)=false:=beq_eq_false_iff_ne.2 (by omega)
 have h8z:decide ((8:Int) < (s.size:Int))=false:=decide_eq_false (by omega)
 have t3:=L.t3;have a3:=L.a3;have z3:=L.z3;have v3:=L.v3
 have t4:=L.t4;have a4:=L.a4;have z4:=L.z4;have v4:=L.v4
 have t5:=L.t5;have a5:=L.a5;have z5:=L.z5;have v5:=L.v5
 have t9:=L.t9;have a9:=L.a9;have z9:=L.z9;have v9:=L.v9
 have t21:=L.t21;have a21:=L.a21;have z21:=L.z21;have v21:=L.v21
 have e152:∀ args w,(callFunc (ρ.f 152) args).run P w=.ok (.enter (ρ.f 152) args) w:=enters_of L.f152 (by kernel_rfl) rfl
 have e226:∀ args w,(callFunc (ρ.f 226) args).run P w=.ok (.enter (ρ.f 226) args) w:=enters_of L.f226 (by kernel_rfl) rfl
 go_enter L.f153,Body.n153_ntmps ρ
 go_wp2_with (go_at_fn (ρ.f 226);refine (Any.strings_shouldUseASCIISet { L with } _ _).mono ?_;rintro e w' ⟨rfl,hw⟩;rw [hw,h8z])
 go_loopg [9,10] s.size (fun g _ _ wx=>∃ i:Nat,i+g=s.size∧wx.heap[w.heap.size]?=some (.stringIter s i)∧Below w.heap.size w wx∧Lib.NoAny s.data.toList chars.data.toList i)
 case atStart=>exact ⟨0,by omega,World.iter_heap _ _ _,(Below.refl _ w).alloc (Nat.le_refl _) _,Lib.NoAny.zero _ _⟩
 case round=>
  obtain ⟨i,hig,hk,hbel,hno⟩:=hrel
  have HN:Aside (Lib.NoAny s.data.toList chars.data.toList i):=hno
  have HB:Aside (Below w.heap.size w wr):=hbel
  have HK:Aside (wr.heap[w.heap.size]?=some (.stringIter s i)):=hk
  cases gk with
  | zero=>
   obtain rfl:i=s.size:=by omega
   have hnx:=fun ty=>Lib.run_next_end_at (P:=P) wr w.heap.size s s.size ty hk (by omega)
   clear hno hbel hk
   go_wp2
   go_ret
   exact ⟨by rw [Lib.indexAny_none (by rw [← Lib.size_eq];exact HN.out)];rfl,HB.out⟩
  | succ g=>
   have hi:i < s.size:=by omega
   obtain ⟨x,hx⟩:∃ x:UInt8,s[i]'hi=x:=⟨_,rfl⟩
   have hxl:s.data.toList[i]?=some x:=by rw [← hx];exact Lib.data_getElem? s i hi
   have Hx:Aside (s.data.toList[i]?=some x):=hxl
   have hwd:∀ pos',(wr.iterAt w.heap.size s pos').heap[w.heap.size]?=some (.stringIter s pos'):=fun pos'=>Lib.iterAt_heap _ _ _ _ _ hk
   have HW:Aside (∀ pos',(wr.iterAt w.heap.size s pos').heap[w.heap.size]?=some (.stringIter s pos')):=hwd
   have HL:Aside (w.heap.size < wr.heap.size):=(Array.getElem?_eq_some_iff.1 hk).1
   by_cases hx128:x.toNat < 128
   · have hnx:=fun ty=>Lib.run_next_ascii_at (P:=P) wr w.heap.size s i ty hk hi (by rw [hx];exact hx128)
     rw [hx] at hnx
     clear hxl hx hno hbel hk hwd
     have hcon:=Lib.contains_iff_indexByte chars.data.toList x
     have hback:((x.toNat:Int)).toNat.toUInt8=x:=by simp
     cases hin:chars.data.toList.contains x
     · rw [hin] at hcon
       have hlt:¬ ((0:Int)≤Lib.indexByte chars.data.toList x):=of_decide_eq_false hcon.symm
       clear hcon
       go_wp2_with (go_at_fn (ρ.f 152);refine (Any.strings_IndexRune_ascii { L with } _ _ _ (by omega) (by omega)).mono ?_;rintro e w' ⟨rfl,hw⟩;rw [hw,hback])
       go_roundg g
       case measure=>omega
       case rel=>exact ⟨i+1,by omega,HW.out _,Lib.below_iterAt HB.out (Nat.le_refl _) s _,HN.out.succ Hx.out hin⟩
     · rw [hin] at hcon
       have hge:(0:Int)≤Lib.indexByte chars.data.toList x:=of_decide_eq_true hcon.symm
       clear hcon
       go_wp2_with (go_at_fn (ρ.f 152);refine (Any.strings_IndexRune_ascii { L with } _ _ _ (by omega) (by omega)).mono ?_;rintro e w' ⟨rfl,hw⟩;rw [hw,hback])
       go_ret
       exact ⟨by rw [Lib.indexAny_hit HN.out Hx.out hin];rfl,Lib.below_iterAt HB.out (Nat.le_refl _) s _⟩
   · have hnx:=fun ty=>Lib.run_next_any_at (P:=P) wr w.heap.size s i ty hk hi
     obtain ⟨d1,d2⟩:=decode_high s i hi (by rw [hx];omega)
     obtain ⟨k1,k2⟩:=c2g s i hi (by rw [hx];omega)
     have d3:=b93 s i
     generalize Utf8.decode s i=r at *
     obtain ⟨c,n⟩:=r
     simp only at *
     have hno2:Lib.NoAny s.data.toList chars.data.toList (i+n):=fun j b hj hb=>by
      by_cases hji:j < i
      · exact hno j b hji hb
      · have hb128:=k2 j (by omega) hj
        have hjs:j < s.size:=by omega
        have hbe:s.get! j=b:=by
         have:=Lib.data_getElem? s j hjs
         rw [hb] at this
         show s.get! j=b
         rw [Option.some.inj this]
         have:=get_at s j hjs
         simpa using this
        rw [hbe] at hb128
        cases hcc:chars.data.toList.contains b with
        | false=>rfl
        | true=>
         rw [List.contains_iff_mem] at hcc
         have:=HA.out b hcc
         omega
     have HN2:Aside (Lib.NoAny s.data.toList chars.data.toList (i+n)):=hno2
     have HC:Aside (∀ w:World,Calls P (ρ.f 152) #[.string chars,.int .i32 (c:Int)] w fun e w'=>e=.returned (.int .i64 (-1))∧Below w.heap.size w w'):=fun w=>a82 { L with } chars c w (by omega) d3 hsz HA.out
     clear hxl hx hno hbel hk hwd hno2 k2 d3
     go_wp2_with (go_at_fn (ρ.f 152);refine (HC.out _).mono ?_;rintro e w' ⟨rfl,hw⟩;have HB2:Aside (Below _ _ _):=hw;clear hw)
     go_roundg (g+1 - n)
     case measure=>omega
     case rel=>
      refine ⟨i+n,by omega,?_,(Lib.below_iterAt HB.out (Nat.le_refl _) s _).trans (HB2.out.mono (by rw [Lib.iterAt_size];exact Nat.le_of_lt HL.out)),HN2.out⟩
      rw [HB2.out.block _ (by rw [Lib.iterAt_size];exact HL.out)]
      exact HW.out _
set_option maxHeartbeats 1000000 in
theorem b37 (L:Lays.n150 P ρ) (h116:(P.info? (ρ.t 116)).map (fun i=>(i.zero,i.size))=some (some (.agg (Array.replicate 256 (.bool false))),256)) (s chars:ByteArray) (w:World) (hs:s.size < 4294967281) (h2:2≤chars.size) (hcs:chars.size < 1000) (hac:∀ b∈chars.data.toList,b.toNat < 128) :
 Calls P (ρ.f 150) #[.string s,.string chars] w fun e w'=>e=.returned (.bool (Lib.containsAny s.data.toList chars.data.toList))∧Below w.heap.size w w':=by
 have c:Calls P (ρ.f 153) #[.string s,.string chars] w fun e w'=>e=.returned (.int .i64 (Lib.indexAny s.data.toList chars.data.toList))∧Below w.heap.size w w':=by
  by_cases h8:s.size≤8
  · exact b0y { L with } s chars w h2 h8 hcs hac
  · refine (Any.strings_IndexAny_long { L with } (zero_of_info h116).1 (zero_of_info h116).2 s chars w h2 (by omega) hs (by omega) (fun j b hb=>hac b (List.mem_of_getElem? hb))).mono fun e w' ⟨h1,h2⟩=>⟨h1,?_⟩
    rw [h2]
    exact ((Below.refl _ _).alloc (Nat.le_refl _) _).alloc (by simp) _
 have t3:=L.t3;have a3:=L.a3;have z3:=L.z3;have v3:=L.v3
 have t4:=L.t4;have a4:=L.a4;have z4:=L.z4;have v4:=L.v4
 have t9:=L.t9;have a9:=L.a9;have z9:=L.z9;have v9:=L.v9
 have e153:∀ args w,(callFunc (ρ.f 153) args).run P w=.ok (.enter (ρ.f 153) args) w:=enters_of L.f153 (by kernel_rfl) rfl
 go_enter L.f150,Body.n150_ntmps ρ
 go_wp2_with (go_at_fn (ρ.f 153);refine c.mono ?_;rintro e w' ⟨rfl,hw⟩)
 go_ret
 exact ⟨rfl,hw⟩
open Go.PW Go.KP
variable [GH]
theorem b6s (t wo:Tx) (ht:t.length < 4294967281) (h2:2≤wo.length) (hw:wo.length < 1000) (ha:∀ b∈wo,b.toNat < 128):d8 Tryz.prog 193 [.val (tx t),.val (tx wo)] (.ret (.val (.bool (S1 t wo))) []) []:=by
 refine a27 (rs:=[tx t,tx wo]) (vals:=[.string (bs t),.string (bs wo)]) (v:=.bool (S1 t wo)) rfl rfl fun L w hgl hgb=>?_
 refine (b37 Tryz.lays150 (by kernel_rfl) (bs t) (bs wo) w (by rw [b8];exact ht) (by rw [b8];exact h2) (by rw [b8];exact hw) (fun b hb=>by rw [Z8] at hb;exact ha b hb)).mono fun e w' ⟨he,hw⟩=>?_
 rw [Z8,Z8,a8t] at he
 exact ⟨he,hw⟩
end Go.Proofs
end
section
namespace Go.Proofs
open Go.PW Go.KP
attribute [local simp] RV.cells RV.one PV.cells PV.solid PV.one G6 i7 M3 L4 RV.ofCells elems PV.killL
variable [GF]
theorem c10 (l:List Tx) (v:Tx) (hl:l.length < 1099511627776):d8 Tryz.prog 156 [.val (.list 1 (l.map tx)),.val (tx v)] (.ret (.val (num (a1i l fun x=>decide (x=v)))) []) []:=by
 refine f8 mixed ok156 rfl (fun _=>rfl) ?_
 unfold ir156
 rw [b6]
 simp [d9,i6,j9,b9,d7,num]
 refine j8 (X:=Nat) (fun i=>⟨u0 [(0,.val (.list 1 (l.map tx))),(1,.val (tx v)),(7,.val (num l.length)),(8,.val (num i))],u5 []⟩) (fun i=>i≤l.length∧∀ k (hk:k < i) (hk':k < l.length),l[k]≠v) (fun i=>l.length - i) 0 (Le.mk _ _ ?_ ?_) ?_ ?_
 · simp [upd,num]
 · simp
 · simp
 · rintro i ⟨hi,hne⟩
   simp [num]
   refine f7 (fun h1=>?_) (fun h1=>?_)
   · have e1:(l.map tx)[i]?.getD .nilptr=tx l[i]:=by simp [List.getElem?_eq_getElem h1]
     by_cases hv:v=l[i]
     · have hh:a1i l (fun x=>decide (x=v))=i:=a0l h1 (by simp [← hv]) (fun k hk=>by simp [hne k hk (by omega)])
       simp [num,h1,e1,tx,L7,(eq_true hv:(v=l[i])=True)]
       rw [hh]
     · simp [num,h1,e1,tx,L7,hv]
       refine LoopNext.mk (i+1) ⟨by omega,fun k hk hk'=>?_⟩ (by omega) (Le.mk _ _ ?_ ?_)
       · by_cases e:k=i
         · subst e;exact fun h=>hv h.symm
         · exact hne k (by omega) hk'
       · simp [num,tx];exact wrap_i64 (by omega) (by omega)
       · simp
   · have e:i=l.length:=by omega
     subst e
     have hh:a1i l (fun x=>decide (x=v))=-1:=Y8 (fun k hk=>by simp [hne k hk hk])
     simp [num,hh]
theorem a5j (l:List Tx) (v:Tx) (hl:l.length < 1099511627776):d8 Tryz.prog 197 [.val (.list 1 (l.map tx)),.val (tx v)] (.ret (.val (.bool (decide (v∈l)))) []) []:=by
 refine f8 mixed ok197 rfl (fun _=>rfl) ?_
 unfold ir197
 rw [b6]
 simp [d9,i6,j9,b9,d7,num]
 refine b7 rfl rfl (.inl rfl) (c10 l v hl) ?_
 have hg:=a5y l (fun x=>decide (x=v))
 rw [Bool.eq_iff_iff] at hg
 simp only [decide_eq_true_eq,List.any_eq_true,exists_eq_right] at hg
 simp [num,hg]
theorem c11 (a b:List Tx) (ha:a.length < 1099511627776) (hb:b.length < 1099511627776):d8 Tryz.prog 134 [.val (.list 1 (a.map tx)),.val (.list 1 (b.map tx))] (.ret (.val (.bool (decide (a=b)))) []) []:=by
 refine f8 mixed ok134 rfl (fun _=>rfl) ?_
 unfold ir134
 rw [b6]
 by_cases hlen:a.length=b.length
 rotate_left
 · have h1:¬ (a.length:Int)=b.length:=by omega
   have h2:a≠b:=fun e=>hlen (by rw [e])
   simp [d9,i6,j9,b9,d7,h1,h2]
 simp [d9,i6,j9,b9,d7,num,hlen]
 refine j8 (X:=Nat) (fun i=>⟨u0 [(0,.val (.list 1 (a.map tx))),(1,.val (.list 1 (b.map tx))),(12,.val (num b.length)),(13,.val (num i))],u5 []⟩) (fun i=>i≤b.length∧a.take i=b.take i) (fun i=>b.length - i) 0 (Le.mk _ _ ?_ ?_) ?_ ?_
 · simp [upd,num]
 · simp
 · simp
 · rintro i ⟨hi,heq⟩
   simp [num]
   refine f7 (fun h1b=>?_) (fun h1=>?_)
   · have h1:i < a.length:=by omega
     have e1:(a.map tx)[i]?.getD .nilptr=tx a[i]:=by simp [List.getElem?_eq_getElem h1]
     have e2:(b.map tx)[i]?.getD .nilptr=tx b[i]:=by simp [List.getElem?_eq_getElem h1b]
     simp [num,h1,h1b,e1,e2,tx,L7]
     by_cases hu:a[i]=b[i]
     · simp [hu]
       refine LoopNext.mk (i+1) ⟨by omega,?_⟩ (by omega) (Le.mk _ _ ?_ ?_)
       · rw [List.take_add_one,List.take_add_one,List.getElem?_eq_getElem h1,List.getElem?_eq_getElem h1b,heq,hu]
       · simp [num,tx];exact wrap_i64 (by omega) (by omega)
       · simp
     · have h2:a≠b:=fun e=>hu (by subst e;rfl)
       simp [hu,h2]
   · have e:i=b.length:=by omega
     subst e
     rw [← hlen,List.take_length,hlen,List.take_length] at heq
     simp [heq]
theorem b31 (l:List Tx) (g:Nat) (p:Tx→Bool) (hl:l.length < 1099511627776) (hg:fnB Tryz.prog g=true)
 (hp:∀ x∈l,d8 Tryz.prog g [.val (tx x)] (.ret (.val (.bool (p x))) []) []) :
 d8 Tryz.prog 258 [.val (.list 1 (l.map tx)),.fn g []] (.ret (.val (num (a1i l p))) []) []:=by
 refine f8 mixed ok258 rfl (fun _=>rfl) ?_
 unfold ir258
 rw [b6]
 simp [d9,i6,j9,b9,d7,j9,i6]
 refine j8 (X:=Nat) (fun i=>⟨u0 [(0,.val (.list 1 (l.map tx))),(1,.fn g []),(7,.val (num l.length)),(8,.val (num i))],u5 []⟩) (fun i=>i≤l.length∧∀ k (hk:k < i) (hk':k < l.length),p l[k]=false) (fun i=>l.length - i) 0 (Le.mk _ _ ?_ ?_) ?_ ?_
 · simp [upd,num]
 · simp
 · simp
 · rintro i ⟨hi,hne⟩
   simp [num]
   refine f7 (fun h1=>?_) (fun h1=>?_)
   · have e1:(l.map tx)[i]?.getD .nilptr=tx l[i]:=by simp [List.getElem?_eq_getElem h1]
     simp [num,h1,e1,tx,num,hg]
     refine b7 rfl rfl (.inl rfl) (hp l[i] (List.getElem_mem h1)) ?_
     cases hpi:p l[i] with
     | true=>
      simp
      rw [a0l h1 hpi (fun k hk=>hne k hk (by omega))];rfl
     | false=>
      simp
      refine LoopNext.mk (i+1) ⟨by omega,fun k hk hk'=>?_⟩ (by omega) (Le.mk _ _ ?_ ?_)
      · by_cases e:k=i
        · subst e;exact hpi
        · exact hne k (by omega) hk'
      · simp [num];exact wrap_i64 (by omega) (by omega)
      · simp
   · have e:i=l.length:=by omega
     subst e
     simp [num]
     rw [Y8 (fun k hk=>hne k hk hk)]
theorem b0m (l:List Tx) (g:Nat) (p:Tx→Bool) (hl:l.length < 1099511627776) (hg:fnB Tryz.prog g=true)
 (hp:∀ x∈l,d8 Tryz.prog g [.val (tx x)] (.ret (.val (.bool (p x))) []) []) :
 d8 Tryz.prog 191 [.val (.list 1 (l.map tx)),.fn g []] (.ret (.val (.bool (l.any p))) []) []:=by
 refine f8 mixed ok191 rfl (fun _=>rfl) ?_
 unfold ir191
 rw [b6]
 simp [d9,i6,j9,b9,d7,j9,i6]
 refine b7 rfl rfl (.inl rfl) (b31 l g p hl hg hp) ?_
 simp [num]
 exact a5y l p
theorem b0l (l:List LRule) (g:Nat) (c0_0:RV) (p:LRule→Bool) (hl:l.length < 1099511627776) (hg:fnB Tryz.prog g=true)
 (hp:∀ x∈l,d8 Tryz.prog g [.val (l7 x),.box [c0_0]] (.ret (.val (.bool (p x))) []) [[c0_0]]) :
 d8 Tryz.prog 194 [.val (.list 2 (l.map l7)),.fn g [.box [c0_0]]] (.ret (.val (num (a1i l p))) []) [[c0_0]]:=by
 refine V4 mixed ok194 rfl (fun _=>rfl) ?_
 unfold ir194
 rw [b6]
 simp [d9,i6,j9,b9,d7,j9,i6]
 refine j8 (X:=Nat) (fun i=>⟨u0 [(0,.val (.list 2 (l.map l7))),(1,.fn g [.ptr 900 0]),(7,.val (num l.length)),(8,.val (num i))],u5 [(900,.box [.val c0_0])]⟩) (fun i=>i≤l.length∧∀ k (hk:k < i) (hk':k < l.length),p l[k]=false) (fun i=>l.length - i) 0 (Le.mk _ _ ?_ ?_) ?_ ?_
 · simp [upd,num]
 · simp
 · simp
 · rintro i ⟨hi,hne⟩
   simp [num]
   refine f7 (fun h1=>?_) (fun h1=>?_)
   · have e1:(l.map l7)[i]?.getD .nilptr=l7 l[i]:=by simp [List.getElem?_eq_getElem h1]
     simp [num,h1,e1,l7,tx,num,hg]
     refine T6 (ids:=[900]) rfl rfl (by simp) (by decide) (by simp [a3e,y8,G1,z1,F9,z6,s8,y9,G0,l9,B1,H1,H2,j7,p8,p9,l1,z7,q9,l3,F8,y7,q8,q7,D9,E1,a05,a06,Option.getD_some,Option.getD_none,C6,u6,o8,D6,o7,o0,D8,o2,D7,D5,D4,H6,x3,o5,D2,x1,o4,D1,C4,D3,x2,C9,n9,w9,D0,H8,H7,C5,C7,o3,C8,x4,o6,B4,n0,C3,C2,C1,H3,w7,n6,B9,w5,n5,B8,B2,C0,w6,B6,m8,v8,B7,H5,H4,B3,v7,n8,B5,w8,n7,J6,J5,K9,J7,K3,J9,J8,K8,K2,K4,K5,K6,K7,A1,A0,z8,M5,M6,A4,G2,u7,E5,x7,L3,t6,Q6,M9,M0,O1,O3,O2,Q7,Q8,I8,J0,I9,J1,J2,N8,x9,N7,E6,E7,E8,y0,a09,F5,y6,Q4,Q5,H9,M7,M8,Option.map_some,Option.map_none,E9,y4,x6,o9,E3,E4,I2,I1,O8,O7,J4,F6,F7,J3,O4,O5,I4,p6,I5,p5,N2,F4,F3,l2,O0,O6,I7,N4,N6,N5,x8,A8,B0,A9,k7,N9,R0,Q9,N0,I6,U8,N1,p7,F1,F2,y5,F0,l0,u9,k9,v6,k8,L2,O9,P0,A2,A3,G4,G3,E2]) rfl (hp l[i] (List.getElem_mem h1)) ?_
     cases hpi:p l[i] with
     | true=>
      simp [S8,R7]
      rw [a0l h1 hpi (fun k hk=>hne k hk (by omega))];rfl
     | false=>
      simp
      refine LoopNext.mk (i+1) ⟨by omega,fun k hk hk'=>?_⟩ (by omega) (Le.mk _ _ ?_ ?_)
      · by_cases e:k=i
        · subst e;exact hpi
        · exact hne k (by omega) hk'
      · simp [num];exact wrap_i64 (by omega) (by omega)
      · simp
   · have e:i=l.length:=by omega
     subst e
     simp [num,S8,R7]
     rw [Y8 (fun k hk=>hne k hk hk)]
theorem b0k (l:List LRule) (g:Nat) (c0_0 c0_1:RV) (p:LRule→Bool) (hl:l.length < 1099511627776) (hg:fnB Tryz.prog g=true)
 (hp:∀ x∈l,d8 Tryz.prog g [.val (l7 x),.box [c0_0,c0_1]] (.ret (.val (.bool (p x))) []) [[c0_0,c0_1]]) :
 d8 Tryz.prog 194 [.val (.list 2 (l.map l7)),.fn g [.box [c0_0,c0_1]]] (.ret (.val (num (a1i l p))) []) [[c0_0,c0_1]]:=by
 refine V4 mixed ok194 rfl (fun _=>rfl) ?_
 unfold ir194
 rw [b6]
 simp [d9,i6,j9,b9,d7,j9,i6]
 refine j8 (X:=Nat) (fun i=>⟨u0 [(0,.val (.list 2 (l.map l7))),(1,.fn g [.ptr 900 0]),(7,.val (num l.length)),(8,.val (num i))],u5 [(900,.box [.val c0_0,.val c0_1])]⟩) (fun i=>i≤l.length∧∀ k (hk:k < i) (hk':k < l.length),p l[k]=false) (fun i=>l.length - i) 0 (Le.mk _ _ ?_ ?_) ?_ ?_
 · simp [upd,num]
 · simp
 · simp
 · rintro i ⟨hi,hne⟩
   simp [num]
   refine f7 (fun h1=>?_) (fun h1=>?_)
   · have e1:(l.map l7)[i]?.getD .nilptr=l7 l[i]:=by simp [List.getElem?_eq_getElem h1]
     simp [num,h1,e1,l7,tx,num,hg]
     refine T6 (ids:=[900]) rfl rfl (by simp) (by decide) (by simp [a3e,y8,G1,z1,F9,z6,s8,y9,G0,l9,B1,H1,H2,j7,p8,p9,l1,z7,q9,l3,F8,y7,q8,q7,D9,E1,a05,a06,Option.getD_some,Option.getD_none,C6,u6,o8,D6,o7,o0,D8,o2,D7,D5,D4,H6,x3,o5,D2,x1,o4,D1,C4,D3,x2,C9,n9,w9,D0,H8,H7,C5,C7,o3,C8,x4,o6,B4,n0,C3,C2,C1,H3,w7,n6,B9,w5,n5,B8,B2,C0,w6,B6,m8,v8,B7,H5,H4,B3,v7,n8,B5,w8,n7,J6,J5,K9,J7,K3,J9,J8,K8,K2,K4,K5,K6,K7,A1,A0,z8,M5,M6,A4,G2,u7,E5,x7,L3,t6,Q6,M9,M0,O1,O3,O2,Q7,Q8,I8,J0,I9,J1,J2,N8,x9,N7,E6,E7,E8,y0,a09,F5,y6,Q4,Q5,H9,M7,M8,Option.map_some,Option.map_none,E9,y4,x6,o9,E3,E4,I2,I1,O8,O7,J4,F6,F7,J3,O4,O5,I4,p6,I5,p5,N2,F4,F3,l2,O0,O6,I7,N4,N6,N5,x8,A8,B0,A9,k7,N9,R0,Q9,N0,I6,U8,N1,p7,F1,F2,y5,F0,l0,u9,k9,v6,k8,L2,O9,P0,A2,A3,G4,G3,E2]) rfl (hp l[i] (List.getElem_mem h1)) ?_
     cases hpi:p l[i] with
     | true=>
      simp [S8,R7]
      rw [a0l h1 hpi (fun k hk=>hne k hk (by omega))];rfl
     | false=>
      simp
      refine LoopNext.mk (i+1) ⟨by omega,fun k hk hk'=>?_⟩ (by omega) (Le.mk _ _ ?_ ?_)
      · by_cases e:k=i
        · subst e;exact hpi
        · exact hne k (by omega) hk'
      · simp [num];exact wrap_i64 (by omega) (by omega)
      · simp
   · have e:i=l.length:=by omega
     subst e
     simp [num,S8,R7]
     rw [Y8 (fun k hk=>hne k hk hk)]
theorem a7w (l:List LRule) (g:Nat) (c0_0 c0_1:RV) (p:LRule→Bool) (hl:l.length < 1099511627776) (hg:fnB Tryz.prog g=true)
 (hp:∀ x∈l,d8 Tryz.prog g [.val (l7 x),.box [c0_0,c0_1]] (.ret (.val (.bool (p x))) []) [[c0_0,c0_1]]) :
 d8 Tryz.prog 131 [.val (.list 2 (l.map l7)),.fn g [.box [c0_0,c0_1]]] (.ret (.val (.bool (l.any p))) []) [[c0_0,c0_1]]:=by
 refine V4 mixed ok131 rfl (fun _=>rfl) ?_
 unfold ir131
 rw [b6]
 simp [d9,i6,j9,b9,d7,j9,i6]
 refine T6 (ids:=[900]) rfl rfl (by simp) (by decide) (by simp [a3e,y8,G1,z1,F9,z6,s8,y9,G0,l9,B1,H1,H2,j7,p8,p9,l1,z7,q9,l3,F8,y7,q8,q7,D9,E1,a05,a06,Option.getD_some,Option.getD_none,C6,u6,o8,D6,o7,o0,D8,o2,D7,D5,D4,H6,x3,o5,D2,x1,o4,D1,C4,D3,x2,C9,n9,w9,D0,H8,H7,C5,C7,o3,C8,x4,o6,B4,n0,C3,C2,C1,H3,w7,n6,B9,w5,n5,B8,B2,C0,w6,B6,m8,v8,B7,H5,H4,B3,v7,n8,B5,w8,n7,J6,J5,K9,J7,K3,J9,J8,K8,K2,K4,K5,K6,K7,A1,A0,z8,M5,M6,A4,G2,u7,E5,x7,L3,t6,Q6,M9,M0,O1,O3,O2,Q7,Q8,I8,J0,I9,J1,J2,N8,x9,N7,E6,E7,E8,y0,a09,F5,y6,Q4,Q5,H9,M7,M8,Option.map_some,Option.map_none,E9,y4,x6,o9,E3,E4,I2,I1,O8,O7,J4,F6,F7,J3,O4,O5,I4,p6,I5,p5,N2,F4,F3,l2,O0,O6,I7,N4,N6,N5,x8,A8,B0,A9,k7,N9,R0,Q9,N0,I6,U8,N1,p7,F1,F2,y5,F0,l0,u9,k9,v6,k8,L2,O9,P0,A2,A3,G4,G3,E2]) rfl (b0k l g c0_0 c0_1 p hl hg hp) ?_
 simp [num,S8,R7]
 exact a5y l p
end Go.Proofs
end
section
namespace Go.Proofs
open Go.PW Go.KP
attribute [local simp] RV.cells RV.one PV.cells PV.solid PV.one G6 i7 M3 L4 RV.ofCells elems PV.killL
variable [GH]
theorem d01 (t:Tx) (ht:t.length < 1099511627776):d8 Tryz.prog 146 [.val (tx t)] (.ret (.val (.bool (a1y t))) []) []:=by
 refine f8 mixed ok146 rfl (fun _=>rfl) ?_
 unfold ir146
 rw [b6]
 have hmin:(if (25:Int) < (t.length:Int) then (25:Int) else (t.length:Int))=((min t.length 25:Nat):Int):=by split<;>omega
 simp [d9,i6,j9,b9,d7,tx,b8,hmin]
 refine j8 (X:=Nat) (fun i=>⟨u0 [(0,.val (tx t)),(6,.val (num ((min t.length 25:Nat):Int))),(7,.val (num i))],u5 []⟩) (fun i=>i≤min t.length 25∧Y1 P9 a3a (t.take i)=true) (fun i=>min t.length 25 - i) 0 (Le.mk _ _ ?_ ?_) ?_ ?_
 · simp [upd,tx,num]
 · simp
 · simp [Y1]
 · rintro i ⟨hi,hall⟩
   generalize hm:min t.length 25=m at *
   simp [num]
   refine f7 (fun h3'=>?_) (fun h3'=>?_)
   · have h3:i < t.length:=by omega
     have hstep:=a3p (p:=P9) (q:=a3a) (fun _ h=>a8e h) t i h3
     rw [hall,Bool.true_and] at hstep
     have H0:=a2s (p:=P9) (q:=a3a) t i h3
     have hres:(if i=0 then P9 t[i] else a3a t[i])=false→a1y t=false:=fun h=>by unfold a1y;rw [H0 h,Bool.and_false]
     have e3:((t[i].toNat:Int)=45)↔t[i].toNat=45:=by omega
     simp [tx,num,b8,j5,h3]
     refine b7 rfl rfl (.inl rfl) (b2o t[i]) ?_
     cases hlow:P9 t[i] with
     | true=>
      simp
      refine LoopNext.mk (i+1) ⟨by omega,by rw [hstep];split;exact hlow;exact a8e hlow⟩ (by omega) (Le.mk _ _ ?_ ?_)
      · simp [tx,num];exact wrap_i64 (by omega) (by omega)
      · simp
     | false=>
      by_cases h45:t[i].toNat=45
      · by_cases h0:i=0
        · have hr:=hres (by rw [if_pos h0];exact hlow)
          simp [tx,num,b8,j5,h3,e3,h45,(eq_true h0:(i=0)=True),hr]
        · simp [tx,num,b8,j5,h3,e3,h45,h0]
          refine LoopNext.mk (i+1) ⟨by omega,by rw [hstep,if_neg h0];simp [a3a,h45]⟩ (by omega) (Le.mk _ _ ?_ ?_)
          · simp [tx,num];exact wrap_i64 (by omega) (by omega)
          · simp
      · have hr:=hres (by
         split
         · exact hlow
         · simp [a3a,hlow,h45])
        simp [tx,num,b8,j5,h3,e3,h45,hr]
   · have e:i=m:=by omega
     subst e
     simp [tx,b8]
     refine b7 rfl rfl (.inl rfl) (R9 t.length 1 24) ?_
     by_cases hlen:1≤t.length∧t.length≤24
     · rw [show decide ((1:Int)≤t.length∧(t.length:Int)≤24)=true from decide_eq_true (by omega)]
       have he:t.take i=t:=List.take_of_length_le (by omega)
       rw [he] at hall
       have:a1y t=true:=by unfold a1y;rw [hall,decide_eq_true hlen];rfl
       simp [this]
     · rw [show decide ((1:Int)≤t.length∧(t.length:Int)≤24)=false from decide_eq_false (by omega)]
       have:a1y t=false:=by unfold a1y;rw [decide_eq_false hlen];rfl
       simp [this]
theorem c71 (w:Tx) (hw:w.length < 4294967281):d8 Tryz.prog 192 [.val (tx w)] (.ret (.val (.bool (!a0k w))) []) []:=by
 refine f8 mixed ok192 rfl (fun _=>rfl) ?_
 unfold ir192
 rw [b6]
 have e0:((⟨#[]⟩:ByteArray))=bs []:=rfl
 by_cases h0:w=[]
 · subst h0
   simp [d9,i6,j9,b9,d7,tx,a0k,bs]
 · simp [d9,i6,j9,b9,d7,tx,e0,L7,h0]
   refine b7 rfl rfl (.inl rfl) (b6s w [32,9,59] hw (by simp) (by simp) (by decide)) ?_
   have he:(!a0k w)=S1 w [32,9,59]:=by
    rw [b0d,decide_eq_true h0,Bool.true_and]
    unfold S1
    rw [List.not_all_eq_any_not]
    congr 1
    funext c
    unfold a3f
    rw [Bool.not_not]
    have k1:(c.toNat=32)↔c=32:=⟨fun h=>UInt8.toNat_inj.1 h,fun h=>by rw [h];rfl⟩
    have k2:(c.toNat=9)↔c=9:=⟨fun h=>UInt8.toNat_inj.1 h,fun h=>by rw [h];rfl⟩
    have k3:(c.toNat=59)↔c=59:=⟨fun h=>UInt8.toNat_inj.1 h,fun h=>by rw [h];rfl⟩
    simp [k1,k2,k3]
   rw [he]
   simp
theorem d0y (r:LRule) (hb:Y2 1048576 r):d8 Tryz.prog 130 [.val (l7 r)] (.ret (.val (.bool (X2 r))) []) []:=by
 refine f8 mixed ok130 rfl (fun _=>rfl) ?_
 unfold ir130
 rw [b6]
 have hn:=hb.1
 have hwl:=hb.2.1
 simp [d9,i6,j9,b9,d7,l7,tx]
 refine b7 rfl rfl (.inl rfl) (d01 r.name (by omega)) ?_
 unfold X2
 cases hrn:a1y r.name with
 | false=>simp
 | true=>
  by_cases h8:r.words.length≤8
  · have h8':(r.words.length:Int)≤8:=by omega
    simp [tx,h8,h8']
    refine b7 rfl rfl (.inl rfl) (b0m r.words 192 (fun w=>!a0k w) (by omega) (by kernel_rfl) (fun w hw=>c71 w (by have:=hb.2.2 w hw;omega))) ?_
    have he:(r.words.any fun w=>!a0k w)=!r.words.all a0k:=by rw [List.not_all_eq_any_not]
    rw [he]
    simp [h8]
  · have h8':¬ (r.words.length:Int)≤8:=by omega
    simp [tx,h8,h8']
theorem i_rule1 (r:LRule) (name:Tx):d8 Tryz.prog 260 [.val (l7 r),.box [tx name]] (.ret (.val (.bool (decide (r.name=name)))) []) [[tx name]]:=by
 refine V4 mixed ok260 rfl (fun _=>rfl) ?_
 unfold ir260
 rw [b6]
 simp [d9,i6,j9,b9,d7,l7,tx,num,L7,S8,R7]
theorem d0z (p:LPolicy) (name:Tx) (hl:p.rules.length < 1099511627776):d8 Tryz.prog 195 [.val (x5 p),.val (tx name)] (.ret (.val (.list 1 ((W7 p.rules name).map tx))) []) []:=by
 refine f8 mixed ok195 rfl (fun _=>rfl) ?_
 unfold ir195
 rw [b6]
 simp [d9,i6,j9,b9,d7,x5,tx]
 refine T6 (ids:=[3]) rfl rfl (by simp) (by decide) (by simp [a3e,y8,G1,z1,F9,z6,s8,y9,G0,l9,B1,H1,H2,j7,p8,p9,l1,z7,q9,l3,F8,y7,q8,q7,D9,E1,a05,a06,Option.getD_some,Option.getD_none,C6,u6,o8,D6,o7,o0,D8,o2,D7,D5,D4,H6,x3,o5,D2,x1,o4,D1,C4,D3,x2,C9,n9,w9,D0,H8,H7,C5,C7,o3,C8,x4,o6,B4,n0,C3,C2,C1,H3,w7,n6,B9,w5,n5,B8,B2,C0,w6,B6,m8,v8,B7,H5,H4,B3,v7,n8,B5,w8,n7,J6,J5,K9,J7,K3,J9,J8,K8,K2,K4,K5,K6,K7,A1,A0,z8,M5,M6,A4,G2,u7,E5,x7,L3,t6,Q6,M9,M0,O1,O3,O2,Q7,Q8,I8,J0,I9,J1,J2,N8,x9,N7,E6,E7,E8,y0,a09,F5,y6,Q4,Q5,H9,M7,M8,Option.map_some,Option.map_none,E9,y4,x6,o9,E3,E4,I2,I1,O8,O7,J4,F6,F7,J3,O4,O5,I4,p6,I5,p5,N2,F4,F3,l2,O0,O6,I7,N4,N6,N5,x8,A8,B0,A9,k7,N9,R0,Q9,N0,I6,U8,N1,p7,F1,F2,y5,F0,l0,u9,k9,v6,k8,L2,O9,P0,A2,A3,G4,G3,E2,tx]) rfl (b0l p.rules 260 (tx name) (fun r=>decide (r.name=name)) hl (by kernel_rfl) (fun x _=>i_rule1 x name)) ?_
 unfold W7
 rcases b2i p.rules (fun r=>decide (r.name=name)) with ⟨k1,k2⟩ | ⟨k,hk,k1,k2⟩
 · rw [k1,k2]
   simp [num]
 · rw [k1,k2]
   obtain ⟨r,hrk⟩:∃ r,p.rules[k]=r:=⟨_,rfl⟩
   rw [hrk]
   have hk0:¬ (k:Int) < 0:=by omega
   simp [num,hk,hrk,hk0,l7]
structure MS (st:St) (rt:Tx) (acc:List Tx) (rules:List LRule):Prop where
 e1:st.env 1=.ptr 1 0
 e2:st.env 2=.ptr 2 0
 m2:st.mem 2=.box [.val (tx []),.emp 1,.emp 2]
 m1:st.mem 1=.box [.val (tx rt),c6b 1 55 acc,.val (.list 2 (rules.map l7))]
 m55:acc≠[]→st.mem 55=.row 9 1 (acc.map tx)
theorem b68 (rules:List LRule) (rt:Tx) (acc:List Tx) (st:St) (h:MS st rt acc rules):EC Tryz.prog ir133_from4 st (K:=⟨a2m [.c 2 true 3] (.val (x5 ⟨rt,acc,rules⟩))⟩):=by
 unfold ir133_from4
 have m1:=h.m1
 have m55:=h.m55
 cases acc with
 | nil=>
  simp [h.e1,h.e2,h.m2,m1,tx]
  refine (b8w (id:=2) (n:=3) (cs:=[.val (tx rt),.emp 1,.val (.list 2 (rules.map l7))]) (rs:=[tx rt,.list 1 [],.list 2 (rules.map l7)]) ?_ ?_ ?_ rfl (by omega)).trans ?_
  · simp [h.e2]
  · simp
    rfl
  · simp [PV.frzL,PV.frz,PV.plL,PV.pl,a1p,tx]
  · simp [M3,i7,x5]
 | cons a acc=>
  have m55:=m55 (by simp)
  simp [h.e1,h.e2,h.m2,m1,m55,tx]
  refine (b8w (id:=2) (n:=3) (cs:=[.val (tx rt),.own 55,.val (.list 2 (rules.map l7))]) (rs:=[tx rt,.list 1 ((a :: acc).map tx),.list 2 (rules.map l7)]) ?_ ?_ ?_ rfl (by omega)).trans ?_
  · simp [h.e2]
  · simp
    rfl
  · simp [PV.frzL,PV.frz,PV.plL,PV.pl,a1p,m55,tx]
  · simp [M3,i7,x5]
theorem a6b (rules:List LRule) (hr:bdS 1048576 (Y2 1048576) rules) (rt:Tx) (st:St) (h:MS st rt [] rules):EC Tryz.prog ir133_from3 st (K:=⟨a2m [.c 2 true 3] (.val (x5 ⟨rt,a3k rules,rules⟩))⟩):=by
 unfold ir133_from3
 have hrl:=hr.1
 have m1:=h.m1
 simp only [c7f] at m1
 simp [h.e1,m1]
 refine b7 rfl rfl (.inl rfl) (d0z ⟨rt,[],rules⟩ a1u (by show rules.length < _;omega)) ?_
 have hws:bdS 1048576 (fun t=>t.length≤1048576) (W7 rules a1u):=by
  unfold W7
  split
  · rename_i r hf
    exact (hr.2 r (List.mem_of_find?_eq_some hf)).2
  · exact ⟨by simp,by simp⟩
 unfold a3k
 simp only
 generalize W7 rules a1u=ws at *
 have hwl:=hws.1
 simp [num]
 refine j8 (X:=Nat) (fun i=>⟨u0 [(1,.ptr 1 0),(2,.ptr 2 0),(26,.val (.list 1 (ws.map tx))),(27,.val (num ws.length)),(28,.val (num i))],u5 [(2,.box [.val (tx []),.emp 1,.emp 2]),(1,.box [.val (tx rt),c6b 1 55 ((ws.take i).foldl Q3 []),.val (.list 2 (rules.map l7))]),(55,c9s 9 1 tx ((ws.take i).foldl Q3 []))]⟩) (fun i=>i≤ws.length) (fun i=>ws.length - i) 0 (Le.mkD _ _ ?_ ?_) ?_ ?_
 · simp [upd,num,h.e1,h.e2]
 · simp [h.m2,m1]
 · simp
 · intro i hi
   simp [num]
   refine f7 (fun h1=>?_) (fun h1=>?_)
   · have e1:(ws.map tx)[i]?.getD .nilptr=tx ws[i]:=by simp [List.getElem?_eq_getElem h1]
     have hwi:ws[i].length≤1048576:=hws.2 _ (List.getElem_mem h1)
     have hst:=a7r Q3 [] ws i h1
     have hal:((ws.take i).foldl Q3 []).length≤4:=a7y _ _ (by simp)
     generalize (ws.take i).foldl Q3 []=acc at *
     simp [num,h1,e1,tx]
     refine a8w rfl rfl (fun _=>rfl) rfl (.inl rfl) (c6p ws[i] (by omega)) ?_
     rw [b7l]
     cases hc:b0g ws[i] with
     | none=>
      have hu:Q3 acc ws[i]=acc:=by unfold Q3;rw [hc]
      rw [hu] at hst
      simp [Z2]
      refine LoopNext.mk (i+1) (by omega) (by omega) (Le.mk _ _ ?_ ?_)
      · simp [num];exact wrap_i64 (by omega) (by omega)
      · simp [hst,tx]
     | some u=>
      cases acc with
      | nil=>
       have hu:Q3 [] ws[i]=[u]:=by unfold Q3;rw [hc];simp
       rw [hu] at hst
       simp [Z2]
       refine b7 rfl rfl (.inl rfl) (a5j [] u (by simp)) ?_
       simp [tx]
       refine LoopNext.mk (i+1) (by omega) (by omega) (Le.mk _ _ ?_ ?_)
       · simp [num];exact wrap_i64 (by omega) (by omega)
       · simp [hst,tx]
      | cons a acc=>
       simp [Z2]
       refine b7 rfl rfl (.inr rfl) (a5j (a :: acc) u (by simp at hal ⊢;omega)) ?_
       by_cases hm:u∈a :: acc
       · have hu:Q3 (a :: acc) ws[i]=a :: acc:=by unfold Q3;rw [hc];simp [hm]
         rw [hu] at hst
         rw [decide_eq_true hm]
         simp
         refine LoopNext.mk (i+1) (by omega) (by omega) (Le.mk _ _ ?_ ?_)
         · simp [num];exact wrap_i64 (by omega) (by omega)
         · simp [hst,tx]
       · rw [decide_eq_false hm]
         by_cases h4:acc.length+1 < 4
         · have hu:Q3 (a :: acc) ws[i]=(a :: acc)++[u]:=by unfold Q3;rw [hc];simp only;rw [if_pos ⟨hm,by simp;omega⟩]
           rw [hu] at hst
           have h4':(acc.length:Int)+1 < 4:=by omega
           simp [h4,h4',tx]
           refine ⟨by omega,by omega,LoopNext.mk (i+1) (by omega) (by omega) (Le.mk _ _ ?_ ?_)⟩
           · simp [num];exact wrap_i64 (by omega) (by omega)
           · simp [hst,tx]
         · have hu:Q3 (a :: acc) ws[i]=a :: acc:=by unfold Q3;rw [hc];simp only;rw [if_neg (fun h=>h4 (by simpa using h.2))]
           rw [hu] at hst
           have h4':¬ (acc.length:Int)+1 < 4:=by omega
           simp [h4,h4']
           refine LoopNext.mk (i+1) (by omega) (by omega) (Le.mk _ _ ?_ ?_)
           · simp [num];exact wrap_i64 (by omega) (by omega)
           · simp [hst,tx]
   · have e9:i=ws.length:=by omega
     subst e9
     simp
     generalize ws.foldl Q3 []=acc
     refine b68 rules rt acc _ ⟨?_,?_,?_,?_,?_⟩
     · simp
     · simp
     · simp
     · simp
     · intro hne
       cases acc with
       | nil=>exact absurd rfl hne
       | cons a acc=>simp
theorem c70 (p:LPolicy) (hr:bdS 1048576 (Y2 1048576) p.rules):d8 Tryz.prog 133 [.val (x5 p)] (.ret (.val (x5 ⟨a3l p.rules,a3k p.rules,p.rules⟩)) []) []:=by
 refine f8 mixed ok133 rfl (fun _=>rfl) ?_
 unfold ir133
 rw [b6]
 have hrl:=hr.1
 simp [d9,i6,j9,b9,d7,x5,tx]
 refine b7 rfl rfl (.inl rfl) (d0z ⟨[],[],p.rules⟩ a30 (by show p.rules.length < _;omega)) ?_
 have hws:bdS 1048576 (fun t=>t.length≤1048576) (W7 p.rules a30):=by
  unfold W7
  split
  · rename_i r hf
    exact (hr.2 r (List.mem_of_find?_eq_some hf)).2
  · exact ⟨by simp,by simp⟩
 have hrt:a3l p.rules=a5k (W7 p.rules a30):=rfl
 rw [hrt]
 simp only
 generalize W7 p.rules a30=ws at *
 cases ws with
 | nil=>
  rw [show a5k []=[] from rfl]
  simp
  refine a6b p.rules hr [] _ ⟨?_,?_,?_,?_,?_⟩<;>simp [tx,bs]
 | cons w ws=>
  have hwl:w.length≤1048576:=hws.2 w (by simp)
  have e1:a5k (w :: ws)=if a1h w then w else []:=rfl
  have hp:(0:Int) < (ws.length:Int)+1:=by omega
  rw [e1]
  simp [hp,tx]
  refine b7 rfl rfl (.inl rfl) (b5z w (by omega)) ?_
  cases hlw:a1h w with
  | false=>
   rw [if_neg (by simp)]
   simp
   refine a6b p.rules hr [] _ ⟨?_,?_,?_,?_,?_⟩<;>simp [tx,bs]
  | true=>
   rw [if_pos rfl]
   simp [hp,tx]
   refine a6b p.rules hr w _ ⟨?_,?_,?_,?_,?_⟩<;>simp [tx,bs]
theorem c1z (o r:LRule):d8 Tryz.prog 132 [.val (l7 o),.box [tx r.name,.list 1 (r.words.map tx)]] (.ret (.val (.bool (decide (o.name=r.name)))) []) [[tx r.name,.list 1 (r.words.map tx)]]:=by
 refine V4 mixed ok132 rfl (fun _=>rfl) ?_
 unfold ir132
 rw [b6]
 simp [d9,i6,j9,b9,d7,l7,tx,num,L7,S8,R7]
theorem c4j (p:LPolicy) (hb:a0p 1048576 p) (st:St) (e1:st.env 1=.ptr 1 0) (m1:st.mem 1=.box [.val (tx p.reportTo),.val (.list 1 (p.uris.map tx)),.val (.list 2 (p.rules.map l7))]):EC Tryz.prog ir74_from3 st (K:=⟨a2m [.t 2] (.val (.bool (decide (p.reportTo=a3l p.rules) && decide (p.uris=a3k p.rules))))⟩):=by
 unfold ir74_from3
 have hul:=hb.2.1.1
 have hl4:=a7y (W7 p.rules a1u) [] (by simp)
 simp [e1,m1,i7]
 refine b7 rfl rfl (.inl rfl) (c70 p hb.2.2) ?_
 simp [x5,tx,L7,e1,m1,PV.kill]
 by_cases hr:a3l p.rules=p.reportTo
 · rw [hr]
   simp [e1,m1,PV.kill]
   refine b7 rfl rfl (.inl rfl) (c11 (a3k p.rules) p.uris (by unfold a3k;omega) (by omega)) ?_
   have:decide (a3k p.rules=p.uris)=decide (p.uris=a3k p.rules):=by rw [Bool.eq_iff_iff];simp [eq_comm]
   rw [this]
   simp
 · have hr2:¬ p.reportTo=a3l p.rules:=fun h=>hr h.symm
   simp [hr,hr2]
theorem c4r (p:LPolicy) (hb:a0p 1048576 p):d8 Tryz.prog 74 [.val (x5 p)] (.ret (.val (.bool (Y7 p))) []) []:=by
 refine f8 mixed ok74 rfl (fun _=>rfl) ?_
 unfold ir74
 rw [b6]
 have hrl:=hb.2.2.1
 by_cases h8:p.rules.length≤8
 rotate_left
 · have h8':(8:Int) < p.rules.length:=by omega
   have:Y7 p=false:=by unfold Y7;rw [decide_eq_false h8];rfl
   simp [d9,i6,j9,b9,d7,x5,tx,h8',this]
 have h8':¬ (8:Int) < p.rules.length:=by omega
 simp [d9,i6,j9,b9,d7,x5,tx,h8']
 refine j8 (X:=Nat) (fun i=>⟨u0 [(1,.ptr 1 0),(11,.val (.list 2 (p.rules.map l7))),(12,.val (num p.rules.length)),(13,.val (num i))],u5 [(1,.box [.val (tx p.reportTo),.val (.list 1 (p.uris.map tx)),.val (.list 2 (p.rules.map l7))])]⟩) (fun i=>i≤p.rules.length∧((p.rules.take i).all X2 && a2p ((p.rules.map fun r=>r.name).take i))=true) (fun i=>p.rules.length - i) 0 (Le.mk _ _ ?_ ?_) ?_ ?_
 · simp [upd,num]
 · simp [tx]
 · simp [a2p]
 · rintro i ⟨hi,hall⟩
   simp [num]
   refine f7 (fun h1=>?_) (fun h1=>?_)
   · have hbr:=hb.2.2.2 _ (List.getElem_mem h1)
     have hst:(p.rules.take (i+1)).all X2=((p.rules.take i).all X2 && X2 p.rules[i]):=S4 _ _ _ h1
     have hst2:=a34 (p.rules.map fun r=>r.name) i (by simpa using h1)
     simp only [List.getElem_map] at hst2
     have H0:=a9x p i h1
     rw [Bool.and_eq_true] at hall
     rw [hall.1,Bool.true_and] at hst
     rw [hall.2,Bool.true_and] at hst2
     obtain ⟨r,hrk⟩:∃ r,p.rules[i]=r:=⟨_,rfl⟩
     rw [hrk] at hbr hst hst2 H0
     simp [num,h1,hrk,l7,tx,PV.kill,i7]
     refine b7 rfl rfl (.inl rfl) (d0y r hbr) ?_
     cases hn:X2 r with
     | false=>
      have hb2:=H0 (by rw [hn];rfl)
      simp [hb2]
     | true=>
      have hi0:(0:Int)≤(i:Int):=by omega
      have hi1:(i:Int)≤(p.rules.length:Int):=by omega
      simp [num,tx,PV.kill,hi0,hi1]
      have hcf:=a7w (p.rules.take i) 132 (tx r.name) (.list 1 (r.words.map tx)) (fun o=>decide (o.name=r.name)) (by simp;omega) (by kernel_rfl) (fun o _=>c1z o r)
      rw [List.map_take] at hcf
      refine T6 (ids:=[4]) rfl rfl (by simp) (by decide) (by simp [a3e,y8,G1,z1,F9,z6,s8,y9,G0,l9,B1,H1,H2,j7,p8,p9,l1,z7,q9,l3,F8,y7,q8,q7,D9,E1,a05,a06,Option.getD_some,Option.getD_none,C6,u6,o8,D6,o7,o0,D8,o2,D7,D5,D4,H6,x3,o5,D2,x1,o4,D1,C4,D3,x2,C9,n9,w9,D0,H8,H7,C5,C7,o3,C8,x4,o6,B4,n0,C3,C2,C1,H3,w7,n6,B9,w5,n5,B8,B2,C0,w6,B6,m8,v8,B7,H5,H4,B3,v7,n8,B5,w8,n7,J6,J5,K9,J7,K3,J9,J8,K8,K2,K4,K5,K6,K7,A1,A0,z8,M5,M6,A4,G2,u7,E5,x7,L3,t6,Q6,M9,M0,O1,O3,O2,Q7,Q8,I8,J0,I9,J1,J2,N8,x9,N7,E6,E7,E8,y0,a09,F5,y6,Q4,Q5,H9,M7,M8,Option.map_some,Option.map_none,E9,y4,x6,o9,E3,E4,I2,I1,O8,O7,J4,F6,F7,J3,O4,O5,I4,p6,I5,p5,N2,F4,F3,l2,O0,O6,I7,N4,N6,N5,x8,A8,B0,A9,k7,N9,R0,Q9,N0,I6,U8,N1,p7,F1,F2,y5,F0,l0,u9,k9,v6,k8,L2,O9,P0,A2,A3,G4,G3,E2,tx]) rfl hcf ?_
      have hany:((p.rules.take i).any fun o=>decide (o.name=r.name))=decide (r.name∈(p.rules.map fun r=>r.name).take i):=by
       rw [Bool.eq_iff_iff,← List.map_take]
       simp only [List.any_eq_true,decide_eq_true_eq,List.mem_map]
      rw [hany]
      by_cases hu:r.name∈(p.rules.map fun r=>r.name).take i
      · have hb2:=H0 (by rw [decide_eq_false (fun h=>h hu),Bool.and_false])
        rw [decide_eq_true hu]
        simp [hb2]
      · rw [decide_eq_true hu] at hst2
        rw [decide_eq_false hu]
        simp
        refine LoopNext.mk (i+1) ⟨by omega,by rw [hst,hst2,hn];rfl⟩ (by omega) (Le.mk _ _ ?_ ?_)
        · simp [num];exact wrap_i64 (by omega) (by omega)
        · simp [tx]
   · have e:i=p.rules.length:=by omega
     subst e
     rw [List.take_length,List.take_of_length_le (by simp)] at hall
     rw [b1k p hall h8]
     simp
     refine c4j p hb _ ?_ ?_<;>simp [num,tx]
end Go.Proofs
end
