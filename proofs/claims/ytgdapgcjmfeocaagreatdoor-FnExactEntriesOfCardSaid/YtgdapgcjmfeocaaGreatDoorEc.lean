/- Ec: merged out of KLc, KIm, KIn. -/
import Derived.Test.YtgdapgcjmfeocaaGreatDoorEa
import Derived.Shelf.Strings.IndexAnyAll
import Derived.Laws.Runes
import Derived.Laws.RangeAny
import Derived.Lib.QuoteLoop
import Derived.WalkMore
import Derived.Lib.OthersKept
import Derived.Deep.QuietTactic
import Derived.BigQuiet
import Derived.Deep.DeepBigQuietO
import Derived.Shelf.RegionOpenPlain
import Derived.Test.YtgdapgcjmfeocaaGreatDoorCa
import Derived.Test.YtgdapgcjmfeocaaGreatDoorAc
import Derived.Test.YtgdapgcjmfeocaaGreatDoorBa
import Derived.Test.YtgdapgcjmfeocaaGreatDoorEb
import Derived.Test.YtgdapgcjmfeocaaGreatDoorCb
set_option linter.unusedSectionVars false
set_option linter.unusedSimpArgs false
set_option linter.unusedVariables false
set_option maxRecDepth 100000
section
namespace Go.Proofs
open Go.Shelf Go.RowKit Go.Lib
variable {P:Program} {ρ:Ren}
set_option maxHeartbeats 8000000 in
set_option maxRecDepth 1000000 in
theorem any_IndexRune_error (L:Lays.n152 P ρ) (s:ByteArray) (w:World) (hs:∀ (j:Nat) b,s.data.toList[j]?=some b→b.toNat < 128) :
 Calls P (ρ.f 152) #[.string s,.int .i32 65533] w fun e w'=>e=.returned (.int .i64 (-1))∧∃ pos,w'=w.iter s pos:=by
 have HA:Aside (∀ (j:Nat) b,s.data.toList[j]?=some b→b.toNat < 128):=hs
 clear hs
 have t3:=L.t3;have a3:=L.a3;have z3:=L.z3;have v3:=L.v3
 have t4:=L.t4;have a4:=L.a4;have z4:=L.z4;have v4:=L.v4
 have t5:=L.t5;have a5:=L.a5;have z5:=L.z5;have v5:=L.v5
 have t9:=L.t9;have a9:=L.a9;have z9:=L.z9;have v9:=L.v9
 have t21:=L.t21;have a21:=L.a21;have z21:=L.z21;have v21:=L.v21
 go_enter L.f152,Body.n152_ntmps ρ
 go_wp2
 go_loopg [5,6] s.size (fun g _ _ wx=>∃ i:Nat,i+g=s.size∧wx=w.iter s i)
 case atStart=>exact ⟨0,by omega,rfl⟩
 case round=>
  obtain ⟨i,hig,rfl⟩:=hrel
  cases gk with
  | zero=>
   obtain rfl:i=s.size:=by omega
   have hnx:=run_next_end (P:=P) w s s.size
   go_wp2
   go_ret
   exact ⟨rfl,_,rfl⟩
  | succ g=>
   have hi:i < s.size:=by omega
   obtain ⟨x,hx⟩:∃ x:UInt8,s[i]'hi=x:=⟨_,rfl⟩
   have hxl:s.data.toList[i]?=some x:=by rw [← hx];exact Lib.data_getElem? s i hi
   have hx128:x.toNat < 128:=HA.out i x hxl
   have hnx:=fun ty=>run_next_ascii (P:=P) w s i ty hi (by rw [hx];exact hx128)
   rw [hx] at hnx
   clear hxl hx
   have hne:((x.toNat:Int) == 65533)=false:=beq_eq_false_iff_ne.2 (by omega)
   go_wp2
   go_roundg g
   case measure=>omega
   case rel=>exact ⟨i+1,by omega,rfl⟩
theorem encode_last (r:Int) (hv:Lib.validRune r=true) (h128:128≤r):1≤(Utf8.encode r).size∧(Utf8.encode r).size≤4∧∀ h:(Utf8.encode r).size - 1 < (Utf8.encode r).size,128≤((Utf8.encode r)[(Utf8.encode r).size - 1]'h).toNat:=by
 have:=encode_facts r (by rw [Go.validRune_eq];exact hv) h128
 exact ⟨by omega,this.2.1,this.2.2⟩
set_option maxHeartbeats 8000000 in
set_option maxRecDepth 1000000 in
theorem any_IndexRune_high (L:Lays.n152 P ρ) (s:ByteArray) (r:Int) (w:World) (h128:128≤r) (hne:r≠65533) (hv:Lib.validRune r=true) (hsz:s.size < 1000) (hs:∀ b∈s.data.toList,b.toNat < 128) :
 Calls P (ρ.f 152) #[.string s,.int .i32 r] w fun e w'=>e=.returned (.int .i64 (-1))∧Below w.heap.size w w':=by
 have HA:Aside (∀ b∈s.data.toList,b.toNat < 128):=hs
 clear hs
 obtain ⟨k1,k4,klast⟩:=encode_last r hv h128
 have mixed:=L.mixed
 obtain ⟨t,ht⟩:∃ t,Utf8.encode r=t:=⟨_,rfl⟩
 rw [ht] at k1 k4 klast
 have t3:=L.t3;have a3:=L.a3;have z3:=L.z3;have v3:=L.v3
 have t4:=L.t4;have a4:=L.a4;have z4:=L.z4;have v4:=L.v4
 have t5:=L.t5;have a5:=L.a5;have z5:=L.z5;have v5:=L.v5
 have t9:=L.t9;have a9:=L.a9;have z9:=L.z9;have v9:=L.v9
 have t21:=L.t21;have a21:=L.a21;have z21:=L.z21;have v21:=L.v21
 have e119:∀ args w,(callFunc (ρ.f 119) args).run P w=.ok (.enter (ρ.f 119) args) w:=enters_of L.f119 (by kernel_rfl) rfl
 have e137:∀ args w,(callFunc (ρ.f 137) args).run P w=.ok (.enter (ρ.f 137) args) w:=enters_of L.f137 (by kernel_rfl) rfl
 have hneb:(r == 65533)=false:=beq_eq_false_iff_ne.2 hne
 have h128b:¬ r < 128:=by omega
 have hcv:∀ (w:World),(convert (ρ.t 21) (ρ.t 9) (.int .i32 r)).run P w=.ok (.string t) w:=fun w=>by
  rw [run_convert_int_string w _ _ _ _ (by rw [t21];rfl) t9,ht]
 go_enter L.f152,Body.n152_ntmps ρ
 go_wp2_with (go_at_fn (ρ.f 119);refine (Any.utf8_ValidRune { L with } _ _).mono ?_;rintro e w' ⟨rfl,hw⟩;rw [hw,hv])
 go_step3
 go_wp2
 go_loopg [9,10] 0 (fun g s9 s10 wx=>s9=.int .i64 ((t.size:Int) - 1)∧s10=.int .i64 0∧wx=w)
 case atStart=>exact ⟨rfl,rfl,rfl⟩
 case round=>
  obtain ⟨rfl,rfl,rfl⟩:=hrel
  by_cases hlt:(t.size:Int) - 1 < (s.size:Int)
  · have hi:t.size - 1 < s.size:=by omega
    have hj:t.size - 1 < t.size:=by omega
    have e1:((t.size:Int) - 1).toNat=t.size - 1:=by omega
    have q0:(0:Int)≤(t.size:Int) - 1:=by omega
    have q1:(t.size:Int) - 1 < (t.size:Int):=by omega
    obtain ⟨x,hx⟩:∃ x:UInt8,s[t.size - 1]'hi=x:=⟨_,rfl⟩
    obtain ⟨y,hy⟩:∃ y:UInt8,t[t.size - 1]'hj=y:=⟨_,rfl⟩
    have hx1:x.toNat < 128:=HA.out x (by rw [← hx];exact Array.getElem_mem_toList (xs:=s.data) hi)
    have hy1:128≤y.toNat:=by rw [← hy];exact klast hj
    have hxy:((x.toNat:Int) == (y.toNat:Int))=false:=beq_eq_false_iff_ne.2 (by omega)
    have g1:∀ w:World,(Instr.index (ρ.t 9) (.string s) (.int .i64 ((t.size:Int) - 1))).run P w=.ok (.int .u8 (x.toNat:Int)) w:=fun w=>by
     rw [run_index_string w _ _ _ _ t9,dif_pos ⟨q0,hlt⟩]
     congr 3
     rw [← hx];congr 2
    have g2:∀ w:World,(Instr.index (ρ.t 9) (.string t) (.int .i64 ((t.size:Int) - 1))).run P w=.ok (.int .u8 (y.toNat:Int)) w:=fun w=>by
     rw [run_index_string w _ _ _ _ t9,dif_pos ⟨q0,q1⟩]
     congr 3
     rw [← hy];congr 2
    go_wp2
    go_step3
    go_wp2
    go_quiet_o (fail)
    go_wp2
    have hix:Lib.indexByte (s.extract t.size s.size).data.toList y=-1:=by
     rw [← Lib.firstIdx_eq]
     exact firstIdx_ascii s _ _ y (fun b hb=>HA.out b hb) hy1
    have hback:((y.toNat:Int)).toNat.toUInt8=y:=by simp
    have hcall:∀ w:World,Calls P (ρ.f 137) #[.string (s.extract t.size s.size),.int .u8 (y.toNat:Int)] w fun e w'=>e=.returned (.int .i64 (-1))∧w'=w:=fun w=>by
     refine (Any.strings_IndexByte { L with } (s.extract t.size s.size) (y.toNat:Int) w).mono ?_
     rintro e w' ⟨rfl,hw⟩
     rw [hback,hix];exact ⟨rfl,hw⟩
    have hwr:IntKind.i64.wrap (t.size:Int)=(t.size:Int):=Go.wrap_small _ (by omega) (by omega)
    have q3:(t.size:Int)≤(s.size:Int):=by omega
    go_big_quiet_o (first | exact (hcall _).mono fun _ _ h=>⟨h.1,_,h.2⟩)
    go_wp2
    simp only [Exit.then,Exit.inBlock,Exit.noGoto]
    go_ret
    exact ⟨rfl,⟨rfl,rfl,rfl,Nat.le_refl _,fun _ _=>rfl⟩⟩
  · go_wp2
    go_ret
    exact ⟨rfl,Below.refl _ _⟩
theorem decode_span (s:ByteArray) (pos:Nat) (h:pos < s.size) (ha:128≤(s[pos]'h).toNat):pos+(Utf8.decode s pos).2≤s.size∧∀ j,pos≤j→j < pos+(Utf8.decode s pos).2→128≤(s.get! j).toNat:=by
 have h0:s.get! (pos+0)=s[pos]'h:=get_at s pos h
 have hn:¬ (s[pos]'h).toNat < 128:=by omega
 have key:∀ n,(1≤n∧n≤4)→(2≤n→pos+1 < s.size∧(s.get! (pos+1)).toNat / 64=2)→(3≤n→pos+2 < s.size∧(s.get! (pos+2)).toNat / 64=2)→(4≤n→pos+3 < s.size∧(s.get! (pos+3)).toNat / 64=2) →
  pos+n≤s.size∧∀ j,pos≤j→j < pos+n→128≤(s.get! j).toNat:=by
  intro n hn4 q1 q2 q3
  constructor
  · by_cases c1:4≤n
    · have:=(q3 c1).1;omega
    · by_cases c2:3≤n
      · have:=(q2 c2).1;omega
      · by_cases c3:2≤n
        · have:=(q1 c3).1;omega
        · omega
  · intro j hj hjn
    have:j=pos+0∨j=pos+1∨j=pos+2∨j=pos+3:=by omega
    rcases this with rfl | rfl | rfl | rfl
    · show 128≤(s.get! (j+0)).toNat
      rw [h0];exact ha
    · have:=(q1 (by omega)).2;omega
    · have:=(q2 (by omega)).2;omega
    · have:=(q3 (by omega)).2;omega
 unfold Utf8.decode
 simp only [h0,hn,if_false]
 repeat' split
 all_goals (first
  | (refine key 1 (by omega) (by omega) (by omega) (by omega))
  | (rename_i hc _;simp only [Bool.and_eq_true,decide_eq_true_eq,beq_iff_eq] at hc;refine key 2 (by omega) (fun _=>⟨hc.2.1,hc.2.2⟩) (by omega) (by omega))
  | (rename_i hc _;simp only [Bool.and_eq_true,decide_eq_true_eq,beq_iff_eq] at hc;refine key 3 (by omega) (fun _=>⟨hc.1.2.1,hc.1.2.2⟩) (fun _=>⟨hc.2.1,hc.2.2⟩) (by omega))
  | (rename_i hc _;simp only [Bool.and_eq_true,decide_eq_true_eq,beq_iff_eq] at hc;refine key 4 (by omega) (fun _=>⟨hc.1.1.2.1,hc.1.1.2.2⟩) (fun _=>⟨hc.1.2.1,hc.1.2.2⟩) (fun _=>⟨hc.2.1,hc.2.2⟩)))
theorem decode_valid (s:ByteArray) (pos:Nat):Lib.validRune ((Utf8.decode s pos).1:Int)=true:=by
 have h:=Lib.decodeN_valid (s.size - pos) (s.get! pos).toNat (s.get! (pos+1)).toNat (s.get! (pos+2)).toNat (s.get! (pos+3)).toNat (UInt8.toNat_lt _)
 rw [← Lib.decode_at] at h
 simp only [Lib.validRune,decide_eq_true_eq]
 omega
theorem any_IndexRune_beyond (L:Lays.n152 P ρ) (chars:ByteArray) (c:Int) (w:World) (h128:128≤c) (hv:Lib.validRune c=true) (hsz:chars.size < 1000) (hs:∀ b∈chars.data.toList,b.toNat < 128) :
 Calls P (ρ.f 152) #[.string chars,.int .i32 c] w fun e w'=>e=.returned (.int .i64 (-1))∧Below w.heap.size w w':=by
 by_cases he:c=65533
 · subst he
   refine (any_IndexRune_error L chars w (fun j b hb=>hs b (List.mem_of_getElem? hb))).mono fun e w' ⟨h1,pos,h2⟩=>⟨h1,?_⟩
   subst h2
   exact (Below.refl _ w).alloc (Nat.le_refl _) _
 · exact any_IndexRune_high L chars c w h128 he hv hsz hs
set_option maxHeartbeats 8000000 in
set_option maxRecDepth 1000000 in
theorem any_IndexAny_short (L:Lays.n153 P ρ) (s chars:ByteArray) (w:World) (h2:2≤chars.size) (h8:s.size≤8) (hsz:chars.size < 1000) (hascii:∀ b∈chars.data.toList,b.toNat < 128) :
 Calls P (ρ.f 153) #[.string s,.string chars] w fun e w'=>e=.returned (.int .i64 (Lib.indexAny s.data.toList chars.data.toList))∧Below w.heap.size w w':=by
 have HA:Aside (∀ b∈chars.data.toList,b.toNat < 128):=hascii
 clear hascii
 have hemp:chars.toList.isEmpty=false:=by
  rw [Lib.toList_data]
  cases h:chars.data.toList with
  | nil=>have:=Lib.size_eq chars;rw [h,List.length_nil] at this;omega
  | cons _ _=>rfl
 have hn1:((chars.size:Int) == 1)=false:=beq_eq_false_iff_ne.2 (by omega)
 have h8z:decide ((8:Int) < (s.size:Int))=false:=decide_eq_false (by omega)
 have t3:=L.t3;have a3:=L.a3;have z3:=L.z3;have v3:=L.v3
 have t4:=L.t4;have a4:=L.a4;have z4:=L.z4;have v4:=L.v4
 have t5:=L.t5;have a5:=L.a5;have z5:=L.z5;have v5:=L.v5
 have t9:=L.t9;have a9:=L.a9;have z9:=L.z9;have v9:=L.v9
 have t21:=L.t21;have a21:=L.a21;have z21:=L.z21;have v21:=L.v21
 have e152:∀ args w,(callFunc (ρ.f 152) args).run P w=.ok (.enter (ρ.f 152) args) w:=enters_of L.f152 (by kernel_rfl) rfl
 have e226:∀ args w,(callFunc (ρ.f 226) args).run P w=.ok (.enter (ρ.f 226) args) w:=enters_of L.f226 (by kernel_rfl) rfl
 go_enter L.f153,Body.n153_ntmps ρ
 go_wp2_with (go_at_fn (ρ.f 226);refine (Any.strings_shouldUseASCIISet { L with } _ _).mono ?_;rintro e w' ⟨rfl,hw⟩;rw [hw,h8z])
 go_loopg [9,10] s.size (fun g _ _ wx=>∃ i:Nat,i+g=s.size∧wx.heap[w.heap.size]?=some (.stringIter s i)∧Below w.heap.size w wx∧Lib.NoAny s.data.toList chars.data.toList i)
 case atStart=>exact ⟨0,by omega,World.iter_heap _ _ _,(Below.refl _ w).alloc (Nat.le_refl _) _,Lib.NoAny.zero _ _⟩
 case round=>
  obtain ⟨i,hig,hk,hbel,hno⟩:=hrel
  have HN:Aside (Lib.NoAny s.data.toList chars.data.toList i):=hno
  have HB:Aside (Below w.heap.size w wr):=hbel
  have HK:Aside (wr.heap[w.heap.size]?=some (.stringIter s i)):=hk
  cases gk with
  | zero=>
   obtain rfl:i=s.size:=by omega
   have hnx:=fun ty=>Lib.run_next_end_at (P:=P) wr w.heap.size s s.size ty hk (by omega)
   clear hno hbel hk
   go_wp2
   go_ret
   exact ⟨by rw [Lib.indexAny_none (by rw [← Lib.size_eq];exact HN.out)];rfl,HB.out⟩
  | succ g=>
   have hi:i < s.size:=by omega
   obtain ⟨x,hx⟩:∃ x:UInt8,s[i]'hi=x:=⟨_,rfl⟩
   have hxl:s.data.toList[i]?=some x:=by rw [← hx];exact Lib.data_getElem? s i hi
   have Hx:Aside (s.data.toList[i]?=some x):=hxl
   have hwd:∀ pos',(wr.iterAt w.heap.size s pos').heap[w.heap.size]?=some (.stringIter s pos'):=fun pos'=>Lib.iterAt_heap _ _ _ _ _ hk
   have HW:Aside (∀ pos',(wr.iterAt w.heap.size s pos').heap[w.heap.size]?=some (.stringIter s pos')):=hwd
   have HL:Aside (w.heap.size < wr.heap.size):=(Array.getElem?_eq_some_iff.1 hk).1
   by_cases hx128:x.toNat < 128
   · have hnx:=fun ty=>Lib.run_next_ascii_at (P:=P) wr w.heap.size s i ty hk hi (by rw [hx];exact hx128)
     rw [hx] at hnx
     clear hxl hx hno hbel hk hwd
     have hcon:=Lib.contains_iff_indexByte chars.data.toList x
     have hback:((x.toNat:Int)).toNat.toUInt8=x:=by simp
     cases hin:chars.data.toList.contains x
     · rw [hin] at hcon
       have hlt:¬ ((0:Int)≤Lib.indexByte chars.data.toList x):=of_decide_eq_false hcon.symm
       clear hcon
       go_wp2_with (go_at_fn (ρ.f 152);refine (Any.strings_IndexRune_ascii { L with } _ _ _ (by omega) (by omega)).mono ?_;rintro e w' ⟨rfl,hw⟩;rw [hw,hback])
       go_roundg g
       case measure=>omega
       case rel=>exact ⟨i+1,by omega,HW.out _,Lib.below_iterAt HB.out (Nat.le_refl _) s _,HN.out.succ Hx.out hin⟩
     · rw [hin] at hcon
       have hge:(0:Int)≤Lib.indexByte chars.data.toList x:=of_decide_eq_true hcon.symm
       clear hcon
       go_wp2_with (go_at_fn (ρ.f 152);refine (Any.strings_IndexRune_ascii { L with } _ _ _ (by omega) (by omega)).mono ?_;rintro e w' ⟨rfl,hw⟩;rw [hw,hback])
       go_ret
       exact ⟨by rw [Lib.indexAny_hit HN.out Hx.out hin];rfl,Lib.below_iterAt HB.out (Nat.le_refl _) s _⟩
   · have hnx:=fun ty=>Lib.run_next_any_at (P:=P) wr w.heap.size s i ty hk hi
     obtain ⟨d1,d2⟩:=decode_high s i hi (by rw [hx];omega)
     obtain ⟨k1,k2⟩:=decode_span s i hi (by rw [hx];omega)
     have d3:=decode_valid s i
     generalize Utf8.decode s i=r at *
     obtain ⟨c,n⟩:=r
     simp only at *
     have hno2:Lib.NoAny s.data.toList chars.data.toList (i+n):=fun j b hj hb=>by
      by_cases hji:j < i
      · exact hno j b hji hb
      · have hb128:=k2 j (by omega) hj
        have hjs:j < s.size:=by omega
        have hbe:s.get! j=b:=by
         have:=Lib.data_getElem? s j hjs
         rw [hb] at this
         show s.get! j=b
         rw [Option.some.inj this]
         have:=get_at s j hjs
         simpa using this
        rw [hbe] at hb128
        cases hcc:chars.data.toList.contains b with
        | false=>rfl
        | true=>
         rw [List.contains_iff_mem] at hcc
         have:=HA.out b hcc
         omega
     have HN2:Aside (Lib.NoAny s.data.toList chars.data.toList (i+n)):=hno2
     have HC:Aside (∀ w:World,Calls P (ρ.f 152) #[.string chars,.int .i32 (c:Int)] w fun e w'=>e=.returned (.int .i64 (-1))∧Below w.heap.size w w'):=fun w=>any_IndexRune_beyond { L with } chars c w (by omega) d3 hsz HA.out
     clear hxl hx hno hbel hk hwd hno2 k2 d3
     go_wp2_with (go_at_fn (ρ.f 152);refine (HC.out _).mono ?_;rintro e w' ⟨rfl,hw⟩;have HB2:Aside (Below _ _ _):=hw;clear hw)
     go_roundg (g+1 - n)
     case measure=>omega
     case rel=>
      refine ⟨i+n,by omega,?_,(Lib.below_iterAt HB.out (Nat.le_refl _) s _).trans (HB2.out.mono (by rw [Lib.iterAt_size];exact Nat.le_of_lt HL.out)),HN2.out⟩
      rw [HB2.out.block _ (by rw [Lib.iterAt_size];exact HL.out)]
      exact HW.out _
set_option maxHeartbeats 1000000 in
theorem any_ContainsAny (L:Lays.n150 P ρ) (h116:(P.info? (ρ.t 116)).map (fun i=>(i.zero,i.size))=some (some (.agg (Array.replicate 256 (.bool false))),256)) (s chars:ByteArray) (w:World) (hs:s.size < 4294967281) (h2:2≤chars.size) (hcs:chars.size < 1000) (hac:∀ b∈chars.data.toList,b.toNat < 128) :
 Calls P (ρ.f 150) #[.string s,.string chars] w fun e w'=>e=.returned (.bool (Lib.containsAny s.data.toList chars.data.toList))∧Below w.heap.size w w':=by
 have c:Calls P (ρ.f 153) #[.string s,.string chars] w fun e w'=>e=.returned (.int .i64 (Lib.indexAny s.data.toList chars.data.toList))∧Below w.heap.size w w':=by
  by_cases h8:s.size≤8
  · exact any_IndexAny_short { L with } s chars w h2 h8 hcs hac
  · refine (Any.strings_IndexAny_long { L with } (zero_of_info h116).1 (zero_of_info h116).2 s chars w h2 (by omega) hs (by omega) (fun j b hb=>hac b (List.mem_of_getElem? hb))).mono fun e w' ⟨h1,h2⟩=>⟨h1,?_⟩
    rw [h2]
    exact ((Below.refl _ _).alloc (Nat.le_refl _) _).alloc (by simp) _
 have t3:=L.t3;have a3:=L.a3;have z3:=L.z3;have v3:=L.v3
 have t4:=L.t4;have a4:=L.a4;have z4:=L.z4;have v4:=L.v4
 have t9:=L.t9;have a9:=L.a9;have z9:=L.z9;have v9:=L.v9
 have e153:∀ args w,(callFunc (ρ.f 153) args).run P w=.ok (.enter (ρ.f 153) args) w:=enters_of L.f153 (by kernel_rfl) rfl
 go_enter L.f150,Body.n150_ntmps ρ
 go_wp2_with (go_at_fn (ρ.f 153);refine c.mono ?_;rintro e w' ⟨rfl,hw⟩)
 go_ret
 exact ⟨rfl,hw⟩
open Go.PW Go.KP
variable [GH]
theorem c_ContainsAnyU (t wo:Tx) (ht:t.length < 4294967281) (h2:2≤wo.length) (hw:wo.length < 1000) (ha:∀ b∈wo,b.toNat < 128):CallOK Tryz.prog 161 [.val (tx t),.val (tx wo)] (.ret (.val (.bool (lhasAny t wo))) []) []:=by
 refine callOK_one (rs:=[tx t,tx wo]) (vals:=[.string (bs t),.string (bs wo)]) (v:=.bool (lhasAny t wo)) rfl rfl fun L w hgl hgb=>?_
 refine (any_ContainsAny Tryz.lays150 (by kernel_rfl) (bs t) (bs wo) w (by rw [bs_size];exact ht) (by rw [bs_size];exact h2) (by rw [bs_size];exact hw) (fun b hb=>by rw [bs_list] at hb;exact ha b hb)).mono fun e w' ⟨he,hw⟩=>?_
 rw [bs_list,bs_list,containsAny_eq] at he
 exact ⟨he,hw⟩
end Go.Proofs
end
section
namespace Go.Proofs
open Go.PW Go.KP
attribute [local simp] RV.cells RV.one PV.cells PV.solid PV.one vals? allVal mkAgg setAt RV.ofCells elems PV.killL
variable [GF]
theorem i_Index_str (l:List Tx) (v:Tx) (hl:l.length < 1099511627776):CallOK Tryz.prog 203 [.val (.list 1 (l.map tx)),.val (tx v)] (.ret (.val (num (lidx l fun x=>decide (x=v)))) []) []:=by
 refine call_val mixed ok203 rfl (fun _=>rfl) ?_
 unfold ir203
 rw [evalC_intro]
 simp [initSt,avPVs,avPV,avBoxesL,avBoxes,num]
 refine loop_EC (X:=Nat) (fun i=>⟨envOf [(0,.val (.list 1 (l.map tx))),(1,.val (tx v)),(7,.val (num l.length)),(8,.val (num i))],memOf []⟩) (fun i=>i≤l.length∧∀ k (hk:k < i) (hk':k < l.length),l[k]≠v) (fun i=>l.length - i) 0 (Le.mk _ _ ?_ ?_) ?_ ?_
 · simp [upd,num]
 · simp
 · simp
 · rintro i ⟨hi,hne⟩
   simp [num]
   refine iteP_intro (fun h1=>?_) (fun h1=>?_)
   · have e1:(l.map tx)[i]?.getD .nilptr=tx l[i]:=by simp [List.getElem?_eq_getElem h1]
     by_cases hv:v=l[i]
     · have hh:lidx l (fun x=>decide (x=v))=i:=lidx_hit h1 (by simp [← hv]) (fun k hk=>by simp [hne k hk (by omega)])
       simp [num,h1,e1,tx,bs_inj,(eq_true hv:(v=l[i])=True)]
       rw [hh]
     · simp [num,h1,e1,tx,bs_inj,hv]
       refine LoopNext.mk (i+1) ⟨by omega,fun k hk hk'=>?_⟩ (by omega) (Le.mk _ _ ?_ ?_)
       · by_cases e:k=i
         · subst e;exact fun h=>hv h.symm
         · exact hne k (by omega) hk'
       · simp [num,tx];exact wrap_i64 (by omega) (by omega)
       · simp
   · have e:i=l.length:=by omega
     subst e
     have hh:lidx l (fun x=>decide (x=v))=-1:=lidx_none (fun k hk=>by simp [hne k hk hk])
     simp [num,hh]
theorem i_Contains_str (l:List Tx) (v:Tx) (hl:l.length < 1099511627776):CallOK Tryz.prog 165 [.val (.list 1 (l.map tx)),.val (tx v)] (.ret (.val (.bool (decide (v∈l)))) []) []:=by
 refine call_val mixed ok165 rfl (fun _=>rfl) ?_
 unfold ir165
 rw [evalC_intro]
 simp [initSt,avPVs,avPV,avBoxesL,avBoxes,num]
 refine callS_val rfl rfl (.inl rfl) (i_Index_str l v hl) ?_
 have hg:=lidx_ge l (fun x=>decide (x=v))
 rw [Bool.eq_iff_iff] at hg
 simp only [decide_eq_true_eq,List.any_eq_true,exists_eq_right] at hg
 simp [num,hg]
theorem i_Equal_str (a b:List Tx) (ha:a.length < 1099511627776) (hb:b.length < 1099511627776):CallOK Tryz.prog 125 [.val (.list 1 (a.map tx)),.val (.list 1 (b.map tx))] (.ret (.val (.bool (decide (a=b)))) []) []:=by
 refine call_val mixed ok125 rfl (fun _=>rfl) ?_
 unfold ir125
 rw [evalC_intro]
 by_cases hlen:a.length=b.length
 rotate_left
 · have h1:¬ (a.length:Int)=b.length:=by omega
   have h2:a≠b:=fun e=>hlen (by rw [e])
   simp [initSt,avPVs,avPV,avBoxesL,avBoxes,h1,h2]
 simp [initSt,avPVs,avPV,avBoxesL,avBoxes,num,hlen]
 refine loop_EC (X:=Nat) (fun i=>⟨envOf [(0,.val (.list 1 (a.map tx))),(1,.val (.list 1 (b.map tx))),(12,.val (num b.length)),(13,.val (num i))],memOf []⟩) (fun i=>i≤b.length∧a.take i=b.take i) (fun i=>b.length - i) 0 (Le.mk _ _ ?_ ?_) ?_ ?_
 · simp [upd,num]
 · simp
 · simp
 · rintro i ⟨hi,heq⟩
   simp [num]
   refine iteP_intro (fun h1b=>?_) (fun h1=>?_)
   · have h1:i < a.length:=by omega
     have e1:(a.map tx)[i]?.getD .nilptr=tx a[i]:=by simp [List.getElem?_eq_getElem h1]
     have e2:(b.map tx)[i]?.getD .nilptr=tx b[i]:=by simp [List.getElem?_eq_getElem h1b]
     simp [num,h1,h1b,e1,e2,tx,bs_inj]
     by_cases hu:a[i]=b[i]
     · simp [hu]
       refine LoopNext.mk (i+1) ⟨by omega,?_⟩ (by omega) (Le.mk _ _ ?_ ?_)
       · rw [List.take_add_one,List.take_add_one,List.getElem?_eq_getElem h1,List.getElem?_eq_getElem h1b,heq,hu]
       · simp [num,tx];exact wrap_i64 (by omega) (by omega)
       · simp
     · have h2:a≠b:=fun e=>hu (by subst e;rfl)
       simp [hu,h2]
   · have e:i=b.length:=by omega
     subst e
     rw [← hlen,List.take_length,hlen,List.take_length] at heq
     simp [heq]
theorem i_IndexFunc_str (l:List Tx) (g:Nat) (p:Tx→Bool) (hl:l.length < 1099511627776) (hg:fnB Tryz.prog g=true)
 (hp:∀ x∈l,CallOK Tryz.prog g [.val (tx x)] (.ret (.val (.bool (p x))) []) []) :
 CallOK Tryz.prog 197 [.val (.list 1 (l.map tx)),.fn g []] (.ret (.val (num (lidx l p))) []) []:=by
 refine call_val mixed ok197 rfl (fun _=>rfl) ?_
 unfold ir197
 rw [evalC_intro]
 simp [initSt,avPVs,avPV,avBoxesL,avBoxes,avPV,avPVs]
 refine loop_EC (X:=Nat) (fun i=>⟨envOf [(0,.val (.list 1 (l.map tx))),(1,.fn g []),(7,.val (num l.length)),(8,.val (num i))],memOf []⟩) (fun i=>i≤l.length∧∀ k (hk:k < i) (hk':k < l.length),p l[k]=false) (fun i=>l.length - i) 0 (Le.mk _ _ ?_ ?_) ?_ ?_
 · simp [upd,num]
 · simp
 · simp
 · rintro i ⟨hi,hne⟩
   simp [num]
   refine iteP_intro (fun h1=>?_) (fun h1=>?_)
   · have e1:(l.map tx)[i]?.getD .nilptr=tx l[i]:=by simp [List.getElem?_eq_getElem h1]
     simp [num,h1,e1,tx,num,hg]
     refine callS_val rfl rfl (.inl rfl) (hp l[i] (List.getElem_mem h1)) ?_
     cases hpi:p l[i] with
     | true=>
      simp
      rw [lidx_hit h1 hpi (fun k hk=>hne k hk (by omega))];rfl
     | false=>
      simp
      refine LoopNext.mk (i+1) ⟨by omega,fun k hk hk'=>?_⟩ (by omega) (Le.mk _ _ ?_ ?_)
      · by_cases e:k=i
        · subst e;exact hpi
        · exact hne k (by omega) hk'
      · simp [num];exact wrap_i64 (by omega) (by omega)
      · simp
   · have e:i=l.length:=by omega
     subst e
     simp [num]
     rw [lidx_none (fun k hk=>hne k hk hk)]
theorem i_ContainsFunc_str (l:List Tx) (g:Nat) (p:Tx→Bool) (hl:l.length < 1099511627776) (hg:fnB Tryz.prog g=true)
 (hp:∀ x∈l,CallOK Tryz.prog g [.val (tx x)] (.ret (.val (.bool (p x))) []) []) :
 CallOK Tryz.prog 159 [.val (.list 1 (l.map tx)),.fn g []] (.ret (.val (.bool (l.any p))) []) []:=by
 refine call_val mixed ok159 rfl (fun _=>rfl) ?_
 unfold ir159
 rw [evalC_intro]
 simp [initSt,avPVs,avPV,avBoxesL,avBoxes,avPV,avPVs]
 refine callS_val rfl rfl (.inl rfl) (i_IndexFunc_str l g p hl hg hp) ?_
 simp [num]
 exact lidx_ge l p
theorem i_IndexFunc_Rule_1 (l:List LRule) (g:Nat) (c0_0:RV) (p:LRule→Bool) (hl:l.length < 1099511627776) (hg:fnB Tryz.prog g=true)
 (hp:∀ x∈l,CallOK Tryz.prog g [.val (rvRule x),.box [c0_0]] (.ret (.val (.bool (p x))) []) [[c0_0]]) :
 CallOK Tryz.prog 162 [.val (.list 2 (l.map rvRule)),.fn g [.box [c0_0]]] (.ret (.val (num (lidx l p))) []) [[c0_0]]:=by
 refine call_valB mixed ok162 rfl (fun _=>rfl) ?_
 unfold ir162
 rw [evalC_intro]
 simp [initSt,avPVs,avPV,avBoxesL,avBoxes,avPV,avPVs]
 refine loop_EC (X:=Nat) (fun i=>⟨envOf [(0,.val (.list 2 (l.map rvRule))),(1,.fn g [.ptr 900 0]),(7,.val (num l.length)),(8,.val (num i))],memOf [(900,.box [.val c0_0])]⟩) (fun i=>i≤l.length∧∀ k (hk:k < i) (hk':k < l.length),p l[k]=false) (fun i=>l.length - i) 0 (Le.mk _ _ ?_ ?_) ?_ ?_
 · simp [upd,num]
 · simp
 · simp
 · rintro i ⟨hi,hne⟩
   simp [num]
   refine iteP_intro (fun h1=>?_) (fun h1=>?_)
   · have e1:(l.map rvRule)[i]?.getD .nilptr=rvRule l[i]:=by simp [List.getElem?_eq_getElem h1]
     simp [num,h1,e1,rvRule,tx,num,hg]
     refine callS_valB (ids:=[900]) rfl rfl (by simp) (by decide) (by simp [SameB,evalC_skip,evalC_reg,evalC_draw,evalC_seq,evalC_cond,evalC_block,evalC_exit,evalC_ret,then_normal,then_exit,then_ret,then_pan,inBlock_normal,inBlock_ret,inBlock_pan,inBlock_exit,condS_bool,evalOps_nil,evalOps_cons,evalX_nil,evalX_cons,guardS_none,guardS_some,setD_some,setD_none,ev_t,ev_k,Option.getD_some,Option.getD_none,stepE_mov,stepE_pick,stepE_alloc,stepE_box,stepE_build,stepE_store,stepE_app,stepE_nilck,stepE_bin,stepE_eqb,stepE_eqs,stepE_un,stepE_conv,stepE_faddr,stepE_fld,stepE_load,stepE_iaddr,stepE_idx,stepE_slc,stepE_ext,stepE_lens,stepE_len,stepE_tostr,stepE_mkfn,stepE_ifc,stepE_mn,stepE_mx,stepE_mx4,stepE_mks,stepE_isnil,stepE_lit,stepE_call,stepE_callv,stepX_mov,stepX_nilck,stepX_bin,stepX_eqb,stepX_eqs,stepX_un,stepX_conv,stepX_faddr,stepX_fld,stepX_load,stepX_iaddr,stepX_idx,stepX_slc,stepX_ext,stepX_lens,stepX_len,stepX_tostr,stepX_mkfn,stepX_ifc,stepX_mn,stepX_mx,stepX_mx4,stepX_pick,stepX_build,stepX_lit,stepX_call,stepX_callv,binS_int,binS_str,binI_add,binI_sub,binI_mul,binI_quo,binI_rem,binI_eql,binI_neq,binI_lss,binI_leq,binI_gtr,binI_geq,binStr_add,binStr_eql,binStr_neq,unS_not,unS_neg,upd_app,envOf_nil,envOf_cons,memOf_nil,memOf_cons,RetP_ret,RetP_normal,resP_t,resP_tt,fin_env,frz_val,frz_emp,frz_own,pl_val,pl_emp,kill_val,kill_own,kill_ptr,kill_emp,kill_elt,kill_at,kill_undef,kill_fn,kill_skip,killM_row,killM_box,killM_dead,Kx_k,fillP_nil,fillP_cons,slc_lo,slc_hi,slc_lohi,slcl_lo,slcl_hi,Option.map_some,Option.map_none,iteP_true,iteP_false,onBool_val,onBool_skip,nilck_ptr,nilck_elt,nilck_at,nilck_fn,eqb_val,eqs_val,conv_val,faddr_ptr,faddr_elt,faddr_at,fld_val,fld_agg,load_ptr,loadBox_box,load_elt,loadRow_row,load_at,iaddr_lst,iaddr_own,iaddrRow_row,idx_val,ext_tup,lens_val,len_val,len_emp,len_own,lenRow_row,tostr_val,tostr_emp,tostr_own,tostrRow_row,ifc_val,mn_val,mx_val,mx4_val,lit_some,fn_fn,mks_val,isnil_nilif,isnil_ifc,isnil_emp,isnil_list,isnil_own,isnilRow_row,store_ptrK,storeBox_box,store_eltK,storeRow_row,add_some,app_own,app_emp,appRow_row,addOf_list,addOf_emp,addOf_own,rowOf_row]) rfl (hp l[i] (List.getElem_mem h1)) ?_
     cases hpi:p l[i] with
     | true=>
      simp [RetB_ret,BoxesAt]
      rw [lidx_hit h1 hpi (fun k hk=>hne k hk (by omega))];rfl
     | false=>
      simp
      refine LoopNext.mk (i+1) ⟨by omega,fun k hk hk'=>?_⟩ (by omega) (Le.mk _ _ ?_ ?_)
      · by_cases e:k=i
        · subst e;exact hpi
        · exact hne k (by omega) hk'
      · simp [num];exact wrap_i64 (by omega) (by omega)
      · simp
   · have e:i=l.length:=by omega
     subst e
     simp [num,RetB_ret,BoxesAt]
     rw [lidx_none (fun k hk=>hne k hk hk)]
theorem i_IndexFunc_Rule_2 (l:List LRule) (g:Nat) (c0_0 c0_1:RV) (p:LRule→Bool) (hl:l.length < 1099511627776) (hg:fnB Tryz.prog g=true)
 (hp:∀ x∈l,CallOK Tryz.prog g [.val (rvRule x),.box [c0_0,c0_1]] (.ret (.val (.bool (p x))) []) [[c0_0,c0_1]]) :
 CallOK Tryz.prog 162 [.val (.list 2 (l.map rvRule)),.fn g [.box [c0_0,c0_1]]] (.ret (.val (num (lidx l p))) []) [[c0_0,c0_1]]:=by
 refine call_valB mixed ok162 rfl (fun _=>rfl) ?_
 unfold ir162
 rw [evalC_intro]
 simp [initSt,avPVs,avPV,avBoxesL,avBoxes,avPV,avPVs]
 refine loop_EC (X:=Nat) (fun i=>⟨envOf [(0,.val (.list 2 (l.map rvRule))),(1,.fn g [.ptr 900 0]),(7,.val (num l.length)),(8,.val (num i))],memOf [(900,.box [.val c0_0,.val c0_1])]⟩) (fun i=>i≤l.length∧∀ k (hk:k < i) (hk':k < l.length),p l[k]=false) (fun i=>l.length - i) 0 (Le.mk _ _ ?_ ?_) ?_ ?_
 · simp [upd,num]
 · simp
 · simp
 · rintro i ⟨hi,hne⟩
   simp [num]
   refine iteP_intro (fun h1=>?_) (fun h1=>?_)
   · have e1:(l.map rvRule)[i]?.getD .nilptr=rvRule l[i]:=by simp [List.getElem?_eq_getElem h1]
     simp [num,h1,e1,rvRule,tx,num,hg]
     refine callS_valB (ids:=[900]) rfl rfl (by simp) (by decide) (by simp [SameB,evalC_skip,evalC_reg,evalC_draw,evalC_seq,evalC_cond,evalC_block,evalC_exit,evalC_ret,then_normal,then_exit,then_ret,then_pan,inBlock_normal,inBlock_ret,inBlock_pan,inBlock_exit,condS_bool,evalOps_nil,evalOps_cons,evalX_nil,evalX_cons,guardS_none,guardS_some,setD_some,setD_none,ev_t,ev_k,Option.getD_some,Option.getD_none,stepE_mov,stepE_pick,stepE_alloc,stepE_box,stepE_build,stepE_store,stepE_app,stepE_nilck,stepE_bin,stepE_eqb,stepE_eqs,stepE_un,stepE_conv,stepE_faddr,stepE_fld,stepE_load,stepE_iaddr,stepE_idx,stepE_slc,stepE_ext,stepE_lens,stepE_len,stepE_tostr,stepE_mkfn,stepE_ifc,stepE_mn,stepE_mx,stepE_mx4,stepE_mks,stepE_isnil,stepE_lit,stepE_call,stepE_callv,stepX_mov,stepX_nilck,stepX_bin,stepX_eqb,stepX_eqs,stepX_un,stepX_conv,stepX_faddr,stepX_fld,stepX_load,stepX_iaddr,stepX_idx,stepX_slc,stepX_ext,stepX_lens,stepX_len,stepX_tostr,stepX_mkfn,stepX_ifc,stepX_mn,stepX_mx,stepX_mx4,stepX_pick,stepX_build,stepX_lit,stepX_call,stepX_callv,binS_int,binS_str,binI_add,binI_sub,binI_mul,binI_quo,binI_rem,binI_eql,binI_neq,binI_lss,binI_leq,binI_gtr,binI_geq,binStr_add,binStr_eql,binStr_neq,unS_not,unS_neg,upd_app,envOf_nil,envOf_cons,memOf_nil,memOf_cons,RetP_ret,RetP_normal,resP_t,resP_tt,fin_env,frz_val,frz_emp,frz_own,pl_val,pl_emp,kill_val,kill_own,kill_ptr,kill_emp,kill_elt,kill_at,kill_undef,kill_fn,kill_skip,killM_row,killM_box,killM_dead,Kx_k,fillP_nil,fillP_cons,slc_lo,slc_hi,slc_lohi,slcl_lo,slcl_hi,Option.map_some,Option.map_none,iteP_true,iteP_false,onBool_val,onBool_skip,nilck_ptr,nilck_elt,nilck_at,nilck_fn,eqb_val,eqs_val,conv_val,faddr_ptr,faddr_elt,faddr_at,fld_val,fld_agg,load_ptr,loadBox_box,load_elt,loadRow_row,load_at,iaddr_lst,iaddr_own,iaddrRow_row,idx_val,ext_tup,lens_val,len_val,len_emp,len_own,lenRow_row,tostr_val,tostr_emp,tostr_own,tostrRow_row,ifc_val,mn_val,mx_val,mx4_val,lit_some,fn_fn,mks_val,isnil_nilif,isnil_ifc,isnil_emp,isnil_list,isnil_own,isnilRow_row,store_ptrK,storeBox_box,store_eltK,storeRow_row,add_some,app_own,app_emp,appRow_row,addOf_list,addOf_emp,addOf_own,rowOf_row]) rfl (hp l[i] (List.getElem_mem h1)) ?_
     cases hpi:p l[i] with
     | true=>
      simp [RetB_ret,BoxesAt]
      rw [lidx_hit h1 hpi (fun k hk=>hne k hk (by omega))];rfl
     | false=>
      simp
      refine LoopNext.mk (i+1) ⟨by omega,fun k hk hk'=>?_⟩ (by omega) (Le.mk _ _ ?_ ?_)
      · by_cases e:k=i
        · subst e;exact hpi
        · exact hne k (by omega) hk'
      · simp [num];exact wrap_i64 (by omega) (by omega)
      · simp
   · have e:i=l.length:=by omega
     subst e
     simp [num,RetB_ret,BoxesAt]
     rw [lidx_none (fun k hk=>hne k hk hk)]
theorem i_ContainsFunc_Rule_2 (l:List LRule) (g:Nat) (c0_0 c0_1:RV) (p:LRule→Bool) (hl:l.length < 1099511627776) (hg:fnB Tryz.prog g=true)
 (hp:∀ x∈l,CallOK Tryz.prog g [.val (rvRule x),.box [c0_0,c0_1]] (.ret (.val (.bool (p x))) []) [[c0_0,c0_1]]) :
 CallOK Tryz.prog 122 [.val (.list 2 (l.map rvRule)),.fn g [.box [c0_0,c0_1]]] (.ret (.val (.bool (l.any p))) []) [[c0_0,c0_1]]:=by
 refine call_valB mixed ok122 rfl (fun _=>rfl) ?_
 unfold ir122
 rw [evalC_intro]
 simp [initSt,avPVs,avPV,avBoxesL,avBoxes,avPV,avPVs]
 refine callS_valB (ids:=[900]) rfl rfl (by simp) (by decide) (by simp [SameB,evalC_skip,evalC_reg,evalC_draw,evalC_seq,evalC_cond,evalC_block,evalC_exit,evalC_ret,then_normal,then_exit,then_ret,then_pan,inBlock_normal,inBlock_ret,inBlock_pan,inBlock_exit,condS_bool,evalOps_nil,evalOps_cons,evalX_nil,evalX_cons,guardS_none,guardS_some,setD_some,setD_none,ev_t,ev_k,Option.getD_some,Option.getD_none,stepE_mov,stepE_pick,stepE_alloc,stepE_box,stepE_build,stepE_store,stepE_app,stepE_nilck,stepE_bin,stepE_eqb,stepE_eqs,stepE_un,stepE_conv,stepE_faddr,stepE_fld,stepE_load,stepE_iaddr,stepE_idx,stepE_slc,stepE_ext,stepE_lens,stepE_len,stepE_tostr,stepE_mkfn,stepE_ifc,stepE_mn,stepE_mx,stepE_mx4,stepE_mks,stepE_isnil,stepE_lit,stepE_call,stepE_callv,stepX_mov,stepX_nilck,stepX_bin,stepX_eqb,stepX_eqs,stepX_un,stepX_conv,stepX_faddr,stepX_fld,stepX_load,stepX_iaddr,stepX_idx,stepX_slc,stepX_ext,stepX_lens,stepX_len,stepX_tostr,stepX_mkfn,stepX_ifc,stepX_mn,stepX_mx,stepX_mx4,stepX_pick,stepX_build,stepX_lit,stepX_call,stepX_callv,binS_int,binS_str,binI_add,binI_sub,binI_mul,binI_quo,binI_rem,binI_eql,binI_neq,binI_lss,binI_leq,binI_gtr,binI_geq,binStr_add,binStr_eql,binStr_neq,unS_not,unS_neg,upd_app,envOf_nil,envOf_cons,memOf_nil,memOf_cons,RetP_ret,RetP_normal,resP_t,resP_tt,fin_env,frz_val,frz_emp,frz_own,pl_val,pl_emp,kill_val,kill_own,kill_ptr,kill_emp,kill_elt,kill_at,kill_undef,kill_fn,kill_skip,killM_row,killM_box,killM_dead,Kx_k,fillP_nil,fillP_cons,slc_lo,slc_hi,slc_lohi,slcl_lo,slcl_hi,Option.map_some,Option.map_none,iteP_true,iteP_false,onBool_val,onBool_skip,nilck_ptr,nilck_elt,nilck_at,nilck_fn,eqb_val,eqs_val,conv_val,faddr_ptr,faddr_elt,faddr_at,fld_val,fld_agg,load_ptr,loadBox_box,load_elt,loadRow_row,load_at,iaddr_lst,iaddr_own,iaddrRow_row,idx_val,ext_tup,lens_val,len_val,len_emp,len_own,lenRow_row,tostr_val,tostr_emp,tostr_own,tostrRow_row,ifc_val,mn_val,mx_val,mx4_val,lit_some,fn_fn,mks_val,isnil_nilif,isnil_ifc,isnil_emp,isnil_list,isnil_own,isnilRow_row,store_ptrK,storeBox_box,store_eltK,storeRow_row,add_some,app_own,app_emp,appRow_row,addOf_list,addOf_emp,addOf_own,rowOf_row]) rfl (i_IndexFunc_Rule_2 l g c0_0 c0_1 p hl hg hp) ?_
 simp [num,RetB_ret,BoxesAt]
 exact lidx_ge l p
end Go.Proofs
end
section
namespace Go.Proofs
open Go.PW Go.KP
attribute [local simp] RV.cells RV.one PV.cells PV.solid PV.one vals? allVal mkAgg setAt RV.ofCells elems PV.killL
variable [GH]
theorem i_isRule (t:Tx) (ht:t.length < 1099511627776):CallOK Tryz.prog 158 [.val (tx t)] (.ret (.val (.bool (lrname t))) []) []:=by
 refine call_val mixed ok158 rfl (fun _=>rfl) ?_
 unfold ir158
 rw [evalC_intro]
 have hmin:(if (25:Int) < (t.length:Int) then (25:Int) else (t.length:Int))=((min t.length 25:Nat):Int):=by split<;>omega
 simp [initSt,avPVs,avPV,avBoxesL,avBoxes,tx,bs_size,hmin]
 refine loop_EC (X:=Nat) (fun i=>⟨envOf [(0,.val (tx t)),(6,.val (num ((min t.length 25:Nat):Int))),(7,.val (num i))],memOf []⟩) (fun i=>i≤min t.length 25∧headAll isLow isRul (t.take i)=true) (fun i=>min t.length 25 - i) 0 (Le.mk _ _ ?_ ?_) ?_ ?_
 · simp [upd,tx,num]
 · simp
 · simp [headAll]
 · rintro i ⟨hi,hall⟩
   generalize hm:min t.length 25=m at *
   simp [num]
   refine iteP_intro (fun h3'=>?_) (fun h3'=>?_)
   · have h3:i < t.length:=by omega
     have hstep:=headAll_succ (p:=isLow) (q:=isRul) (fun _ h=>isLow_isRul h) t i h3
     rw [hall,Bool.true_and] at hstep
     have hbad:=headAll_false (p:=isLow) (q:=isRul) t i h3
     have hres:(if i=0 then isLow t[i] else isRul t[i])=false→lrname t=false:=fun h=>by unfold lrname;rw [hbad h,Bool.and_false]
     have e3:((t[i].toNat:Int)=45)↔t[i].toNat=45:=by omega
     simp [tx,num,bs_size,byteAt_bs,h3]
     refine callS_val rfl rfl (.inl rfl) (i_isLower t[i]) ?_
     cases hlow:isLow t[i] with
     | true=>
      simp
      refine LoopNext.mk (i+1) ⟨by omega,by rw [hstep];split;exact hlow;exact isLow_isRul hlow⟩ (by omega) (Le.mk _ _ ?_ ?_)
      · simp [tx,num];exact wrap_i64 (by omega) (by omega)
      · simp
     | false=>
      by_cases h45:t[i].toNat=45
      · by_cases h0:i=0
        · have hr:=hres (by rw [if_pos h0];exact hlow)
          simp [tx,num,bs_size,byteAt_bs,h3,e3,h45,(eq_true h0:(i=0)=True),hr]
        · simp [tx,num,bs_size,byteAt_bs,h3,e3,h45,h0]
          refine LoopNext.mk (i+1) ⟨by omega,by rw [hstep,if_neg h0];simp [isRul,h45]⟩ (by omega) (Le.mk _ _ ?_ ?_)
          · simp [tx,num];exact wrap_i64 (by omega) (by omega)
          · simp
      · have hr:=hres (by
         split
         · exact hlow
         · simp [isRul,hlow,h45])
        simp [tx,num,bs_size,byteAt_bs,h3,e3,h45,hr]
   · have e:i=m:=by omega
     subst e
     simp [tx,bs_size]
     refine callS_val rfl rfl (.inl rfl) (i_within t.length 1 24) ?_
     by_cases hlen:1≤t.length∧t.length≤24
     · rw [show decide ((1:Int)≤t.length∧(t.length:Int)≤24)=true from decide_eq_true (by omega)]
       have he:t.take i=t:=List.take_of_length_le (by omega)
       rw [he] at hall
       have:lrname t=true:=by unfold lrname;rw [hall,decide_eq_true hlen];rfl
       simp [this]
     · rw [show decide ((1:Int)≤t.length∧(t.length:Int)≤24)=false from decide_eq_false (by omega)]
       have:lrname t=false:=by unfold lrname;rw [decide_eq_false hlen];rfl
       simp [this]
theorem i_ruleOK1 (w:Tx) (hw:w.length < 4294967281):CallOK Tryz.prog 160 [.val (tx w)] (.ret (.val (.bool (!lwordOK w))) []) []:=by
 refine call_val mixed ok160 rfl (fun _=>rfl) ?_
 unfold ir160
 rw [evalC_intro]
 have e0:((⟨#[]⟩:ByteArray))=bs []:=rfl
 by_cases h0:w=[]
 · subst h0
   simp [initSt,avPVs,avPV,avBoxesL,avBoxes,tx,lwordOK,bs]
 · simp [initSt,avPVs,avPV,avBoxesL,avBoxes,tx,e0,bs_inj,h0]
   refine callS_val rfl rfl (.inl rfl) (c_ContainsAnyU w [32,9,59] hw (by simp) (by simp) (by decide)) ?_
   have he:(!lwordOK w)=lhasAny w [32,9,59]:=by
    rw [lwordOK_eq,decide_eq_true h0,Bool.true_and]
    unfold lhasAny
    rw [List.not_all_eq_any_not]
    congr 1
    funext c
    unfold wordByte
    rw [Bool.not_not]
    have k1:(c.toNat=32)↔c=32:=⟨fun h=>UInt8.toNat_inj.1 h,fun h=>by rw [h];rfl⟩
    have k2:(c.toNat=9)↔c=9:=⟨fun h=>UInt8.toNat_inj.1 h,fun h=>by rw [h];rfl⟩
    have k3:(c.toNat=59)↔c=59:=⟨fun h=>UInt8.toNat_inj.1 h,fun h=>by rw [h];rfl⟩
    simp [k1,k2,k3]
   rw [he]
   simp
theorem i_ruleOK (r:LRule) (hb:bdRule 1048576 r):CallOK Tryz.prog 121 [.val (rvRule r)] (.ret (.val (.bool (lruleOK r))) []) []:=by
 refine call_val mixed ok121 rfl (fun _=>rfl) ?_
 unfold ir121
 rw [evalC_intro]
 have hn:=hb.1
 have hwl:=hb.2.1
 simp [initSt,avPVs,avPV,avBoxesL,avBoxes,rvRule,tx]
 refine callS_val rfl rfl (.inl rfl) (i_isRule r.name (by omega)) ?_
 unfold lruleOK
 cases hrn:lrname r.name with
 | false=>simp
 | true=>
  by_cases h8:r.words.length≤8
  · have h8':(r.words.length:Int)≤8:=by omega
    simp [tx,h8,h8']
    refine callS_val rfl rfl (.inl rfl) (i_ContainsFunc_str r.words 160 (fun w=>!lwordOK w) (by omega) (by kernel_rfl) (fun w hw=>i_ruleOK1 w (by have:=hb.2.2 w hw;omega))) ?_
    have he:(r.words.any fun w=>!lwordOK w)=!r.words.all lwordOK:=by rw [List.not_all_eq_any_not]
    rw [he]
    simp [h8]
  · have h8':¬ (r.words.length:Int)≤8:=by omega
    simp [tx,h8,h8']
theorem i_rule1 (r:LRule) (name:Tx):CallOK Tryz.prog 199 [.val (rvRule r),.box [tx name]] (.ret (.val (.bool (decide (r.name=name)))) []) [[tx name]]:=by
 refine call_valB mixed ok199 rfl (fun _=>rfl) ?_
 unfold ir199
 rw [evalC_intro]
 simp [initSt,avPVs,avPV,avBoxesL,avBoxes,rvRule,tx,num,bs_inj,RetB_ret,BoxesAt]
theorem i_rule (p:LPolicy) (name:Tx) (hl:p.rules.length < 1099511627776):CallOK Tryz.prog 163 [.val (rvPolicy p),.val (tx name)] (.ret (.val (.list 1 ((lwordsOf p.rules name).map tx))) []) []:=by
 refine call_val mixed ok163 rfl (fun _=>rfl) ?_
 unfold ir163
 rw [evalC_intro]
 simp [initSt,avPVs,avPV,avBoxesL,avBoxes,rvPolicy,tx]
 refine callS_valB (ids:=[3]) rfl rfl (by simp) (by decide) (by simp [SameB,evalC_skip,evalC_reg,evalC_draw,evalC_seq,evalC_cond,evalC_block,evalC_exit,evalC_ret,then_normal,then_exit,then_ret,then_pan,inBlock_normal,inBlock_ret,inBlock_pan,inBlock_exit,condS_bool,evalOps_nil,evalOps_cons,evalX_nil,evalX_cons,guardS_none,guardS_some,setD_some,setD_none,ev_t,ev_k,Option.getD_some,Option.getD_none,stepE_mov,stepE_pick,stepE_alloc,stepE_box,stepE_build,stepE_store,stepE_app,stepE_nilck,stepE_bin,stepE_eqb,stepE_eqs,stepE_un,stepE_conv,stepE_faddr,stepE_fld,stepE_load,stepE_iaddr,stepE_idx,stepE_slc,stepE_ext,stepE_lens,stepE_len,stepE_tostr,stepE_mkfn,stepE_ifc,stepE_mn,stepE_mx,stepE_mx4,stepE_mks,stepE_isnil,stepE_lit,stepE_call,stepE_callv,stepX_mov,stepX_nilck,stepX_bin,stepX_eqb,stepX_eqs,stepX_un,stepX_conv,stepX_faddr,stepX_fld,stepX_load,stepX_iaddr,stepX_idx,stepX_slc,stepX_ext,stepX_lens,stepX_len,stepX_tostr,stepX_mkfn,stepX_ifc,stepX_mn,stepX_mx,stepX_mx4,stepX_pick,stepX_build,stepX_lit,stepX_call,stepX_callv,binS_int,binS_str,binI_add,binI_sub,binI_mul,binI_quo,binI_rem,binI_eql,binI_neq,binI_lss,binI_leq,binI_gtr,binI_geq,binStr_add,binStr_eql,binStr_neq,unS_not,unS_neg,upd_app,envOf_nil,envOf_cons,memOf_nil,memOf_cons,RetP_ret,RetP_normal,resP_t,resP_tt,fin_env,frz_val,frz_emp,frz_own,pl_val,pl_emp,kill_val,kill_own,kill_ptr,kill_emp,kill_elt,kill_at,kill_undef,kill_fn,kill_skip,killM_row,killM_box,killM_dead,Kx_k,fillP_nil,fillP_cons,slc_lo,slc_hi,slc_lohi,slcl_lo,slcl_hi,Option.map_some,Option.map_none,iteP_true,iteP_false,onBool_val,onBool_skip,nilck_ptr,nilck_elt,nilck_at,nilck_fn,eqb_val,eqs_val,conv_val,faddr_ptr,faddr_elt,faddr_at,fld_val,fld_agg,load_ptr,loadBox_box,load_elt,loadRow_row,load_at,iaddr_lst,iaddr_own,iaddrRow_row,idx_val,ext_tup,lens_val,len_val,len_emp,len_own,lenRow_row,tostr_val,tostr_emp,tostr_own,tostrRow_row,ifc_val,mn_val,mx_val,mx4_val,lit_some,fn_fn,mks_val,isnil_nilif,isnil_ifc,isnil_emp,isnil_list,isnil_own,isnilRow_row,store_ptrK,storeBox_box,store_eltK,storeRow_row,add_some,app_own,app_emp,appRow_row,addOf_list,addOf_emp,addOf_own,rowOf_row,tx]) rfl (i_IndexFunc_Rule_1 p.rules 199 (tx name) (fun r=>decide (r.name=name)) hl (by kernel_rfl) (fun x _=>i_rule1 x name)) ?_
 unfold lwordsOf
 rcases lidx_find p.rules (fun r=>decide (r.name=name)) with ⟨k1,k2⟩ | ⟨k,hk,k1,k2⟩
 · rw [k1,k2]
   simp [num]
 · rw [k1,k2]
   obtain ⟨r,hrk⟩:∃ r,p.rules[k]=r:=⟨_,rfl⟩
   rw [hrk]
   have hk0:¬ (k:Int) < 0:=by omega
   simp [num,hk,hrk,hk0,rvRule]
structure MS (st:St) (rt:Tx) (acc:List Tx) (rules:List LRule):Prop where
 e1:st.env 1=.ptr 1 0
 e2:st.env 2=.ptr 2 0
 m2:st.mem 2=.box [.val (tx []),.emp 1,.emp 2]
 m1:st.mem 1=.box [.val (tx rt),ownOr 1 55 acc,.val (.list 2 (rules.map rvRule))]
 m55:acc≠[]→st.mem 55=.row 9 1 (acc.map tx)
theorem settled_from4 (rules:List LRule) (rt:Tx) (acc:List Tx) (st:St) (h:MS st rt acc rules):EC Tryz.prog ir124_from4 st (K:=⟨RetP [.c 2 true 3] (.val (rvPolicy ⟨rt,acc,rules⟩))⟩):=by
 unfold ir124_from4
 have m1:=h.m1
 have m55:=h.m55
 cases acc with
 | nil=>
  simp [h.e1,h.e2,h.m2,m1,tx]
  refine (resP_cz (id:=2) (n:=3) (cs:=[.val (tx rt),.emp 1,.val (.list 2 (rules.map rvRule))]) (rs:=[tx rt,.list 1 [],.list 2 (rules.map rvRule)]) ?_ ?_ ?_ rfl (by omega)).trans ?_
  · simp [h.e2]
  · simp
    rfl
  · simp [PV.frzL,PV.frz,PV.plL,PV.pl,frzOf,tx]
  · simp [mkAgg,allVal,rvPolicy]
 | cons a acc=>
  have m55:=m55 (by simp)
  simp [h.e1,h.e2,h.m2,m1,m55,tx]
  refine (resP_cz (id:=2) (n:=3) (cs:=[.val (tx rt),.own 55,.val (.list 2 (rules.map rvRule))]) (rs:=[tx rt,.list 1 ((a :: acc).map tx),.list 2 (rules.map rvRule)]) ?_ ?_ ?_ rfl (by omega)).trans ?_
  · simp [h.e2]
  · simp
    rfl
  · simp [PV.frzL,PV.frz,PV.plL,PV.pl,frzOf,m55,tx]
  · simp [mkAgg,allVal,rvPolicy]
theorem settled_from3 (rules:List LRule) (hr:bdS 1048576 (bdRule 1048576) rules) (rt:Tx) (st:St) (h:MS st rt [] rules):EC Tryz.prog ir124_from3 st (K:=⟨RetP [.c 2 true 3] (.val (rvPolicy ⟨rt,luris rules,rules⟩))⟩):=by
 unfold ir124_from3
 have hrl:=hr.1
 have m1:=h.m1
 simp only [ownOr_nil] at m1
 simp [h.e1,m1]
 refine callS_val rfl rfl (.inl rfl) (i_rule ⟨rt,[],rules⟩ sReportUri (by show rules.length < _;omega)) ?_
 have hws:bdS 1048576 (fun t=>t.length≤1048576) (lwordsOf rules sReportUri):=by
  unfold lwordsOf
  split
  · rename_i r hf
    exact (hr.2 r (List.mem_of_find?_eq_some hf)).2
  · exact ⟨by simp,by simp⟩
 unfold luris
 simp only
 generalize lwordsOf rules sReportUri=ws at *
 have hwl:=hws.1
 simp [num]
 refine loop_EC (X:=Nat) (fun i=>⟨envOf [(1,.ptr 1 0),(2,.ptr 2 0),(26,.val (.list 1 (ws.map tx))),(27,.val (num ws.length)),(28,.val (num i))],memOf [(2,.box [.val (tx []),.emp 1,.emp 2]),(1,.box [.val (tx rt),ownOr 1 55 ((ws.take i).foldl uriStep []),.val (.list 2 (rules.map rvRule))]),(55,rowOr 9 1 tx ((ws.take i).foldl uriStep []))]⟩) (fun i=>i≤ws.length) (fun i=>ws.length - i) 0 (Le.mkD _ _ ?_ ?_) ?_ ?_
 · simp [upd,num,h.e1,h.e2]
 · simp [h.m2,m1]
 · simp
 · intro i hi
   simp [num]
   refine iteP_intro (fun h1=>?_) (fun h1=>?_)
   · have e1:(ws.map tx)[i]?.getD .nilptr=tx ws[i]:=by simp [List.getElem?_eq_getElem h1]
     have hwi:ws[i].length≤1048576:=hws.2 _ (List.getElem_mem h1)
     have hst:=foldl_take_succ uriStep [] ws i h1
     have hal:((ws.take i).foldl uriStep []).length≤4:=uris_len _ _ (by simp)
     generalize (ws.take i).foldl uriStep []=acc at *
     simp [num,h1,e1,tx]
     refine callS_pv rfl rfl (fun _=>rfl) rfl (.inl rfl) (i_clean ws[i] (by omega)) ?_
     rw [iclean_lclean]
     cases hc:lclean ws[i] with
     | none=>
      have hu:uriStep acc ws[i]=acc:=by unfold uriStep;rw [hc]
      rw [hu] at hst
      simp [cleanRes]
      refine LoopNext.mk (i+1) (by omega) (by omega) (Le.mk _ _ ?_ ?_)
      · simp [num];exact wrap_i64 (by omega) (by omega)
      · simp [hst,tx]
     | some u=>
      cases acc with
      | nil=>
       have hu:uriStep [] ws[i]=[u]:=by unfold uriStep;rw [hc];simp
       rw [hu] at hst
       simp [cleanRes]
       refine callS_val rfl rfl (.inl rfl) (i_Contains_str [] u (by simp)) ?_
       simp [tx]
       refine LoopNext.mk (i+1) (by omega) (by omega) (Le.mk _ _ ?_ ?_)
       · simp [num];exact wrap_i64 (by omega) (by omega)
       · simp [hst,tx]
      | cons a acc=>
       simp [cleanRes]
       refine callS_val rfl rfl (.inr rfl) (i_Contains_str (a :: acc) u (by simp at hal ⊢;omega)) ?_
       by_cases hm:u∈a :: acc
       · have hu:uriStep (a :: acc) ws[i]=a :: acc:=by unfold uriStep;rw [hc];simp [hm]
         rw [hu] at hst
         rw [decide_eq_true hm]
         simp
         refine LoopNext.mk (i+1) (by omega) (by omega) (Le.mk _ _ ?_ ?_)
         · simp [num];exact wrap_i64 (by omega) (by omega)
         · simp [hst,tx]
       · rw [decide_eq_false hm]
         by_cases h4:acc.length+1 < 4
         · have hu:uriStep (a :: acc) ws[i]=(a :: acc)++[u]:=by unfold uriStep;rw [hc];simp only;rw [if_pos ⟨hm,by simp;omega⟩]
           rw [hu] at hst
           have h4':(acc.length:Int)+1 < 4:=by omega
           simp [h4,h4',tx]
           refine ⟨by omega,by omega,LoopNext.mk (i+1) (by omega) (by omega) (Le.mk _ _ ?_ ?_)⟩
           · simp [num];exact wrap_i64 (by omega) (by omega)
           · simp [hst,tx]
         · have hu:uriStep (a :: acc) ws[i]=a :: acc:=by unfold uriStep;rw [hc];simp only;rw [if_neg (fun h=>h4 (by simpa using h.2))]
           rw [hu] at hst
           have h4':¬ (acc.length:Int)+1 < 4:=by omega
           simp [h4,h4']
           refine LoopNext.mk (i+1) (by omega) (by omega) (Le.mk _ _ ?_ ?_)
           · simp [num];exact wrap_i64 (by omega) (by omega)
           · simp [hst,tx]
   · have e9:i=ws.length:=by omega
     subst e9
     simp
     generalize ws.foldl uriStep []=acc
     refine settled_from4 rules rt acc _ ⟨?_,?_,?_,?_,?_⟩
     · simp
     · simp
     · simp
     · simp
     · intro hne
       cases acc with
       | nil=>exact absurd rfl hne
       | cons a acc=>simp
theorem i_settled (p:LPolicy) (hr:bdS 1048576 (bdRule 1048576) p.rules):CallOK Tryz.prog 124 [.val (rvPolicy p)] (.ret (.val (rvPolicy ⟨lrepTo p.rules,luris p.rules,p.rules⟩)) []) []:=by
 refine call_val mixed ok124 rfl (fun _=>rfl) ?_
 unfold ir124
 rw [evalC_intro]
 have hrl:=hr.1
 simp [initSt,avPVs,avPV,avBoxesL,avBoxes,rvPolicy,tx]
 refine callS_val rfl rfl (.inl rfl) (i_rule ⟨[],[],p.rules⟩ sReportTo (by show p.rules.length < _;omega)) ?_
 have hws:bdS 1048576 (fun t=>t.length≤1048576) (lwordsOf p.rules sReportTo):=by
  unfold lwordsOf
  split
  · rename_i r hf
    exact (hr.2 r (List.mem_of_find?_eq_some hf)).2
  · exact ⟨by simp,by simp⟩
 have hrt:lrepTo p.rules=headWord (lwordsOf p.rules sReportTo):=rfl
 rw [hrt]
 simp only
 generalize lwordsOf p.rules sReportTo=ws at *
 cases ws with
 | nil=>
  rw [show headWord []=[] from rfl]
  simp
  refine settled_from3 p.rules hr [] _ ⟨?_,?_,?_,?_,?_⟩<;>simp [tx,bs]
 | cons w ws=>
  have hwl:w.length≤1048576:=hws.2 w (by simp)
  have e1:headWord (w :: ws)=if lword w then w else []:=rfl
  have hp:(0:Int) < (ws.length:Int)+1:=by omega
  rw [e1]
  simp [hp,tx]
  refine callS_val rfl rfl (.inl rfl) (i_NameOK w (by omega)) ?_
  cases hlw:lword w with
  | false=>
   rw [if_neg (by simp)]
   simp
   refine settled_from3 p.rules hr [] _ ⟨?_,?_,?_,?_,?_⟩<;>simp [tx,bs]
  | true=>
   rw [if_pos rfl]
   simp [hp,tx]
   refine settled_from3 p.rules hr w _ ⟨?_,?_,?_,?_,?_⟩<;>simp [tx,bs]
theorem i_PolicyOK1 (o r:LRule):CallOK Tryz.prog 123 [.val (rvRule o),.box [tx r.name,.list 1 (r.words.map tx)]] (.ret (.val (.bool (decide (o.name=r.name)))) []) [[tx r.name,.list 1 (r.words.map tx)]]:=by
 refine call_valB mixed ok123 rfl (fun _=>rfl) ?_
 unfold ir123
 rw [evalC_intro]
 simp [initSt,avPVs,avPV,avBoxesL,avBoxes,rvRule,tx,num,bs_inj,RetB_ret,BoxesAt]
theorem ipol_from3 (p:LPolicy) (hb:bdPolicy 1048576 p) (st:St) (e1:st.env 1=.ptr 1 0) (m1:st.mem 1=.box [.val (tx p.reportTo),.val (.list 1 (p.uris.map tx)),.val (.list 2 (p.rules.map rvRule))]):EC Tryz.prog ir80_from3 st (K:=⟨RetP [.t 2] (.val (.bool (decide (p.reportTo=lrepTo p.rules) && decide (p.uris=luris p.rules))))⟩):=by
 unfold ir80_from3
 have hul:=hb.2.1.1
 have hl4:=uris_len (lwordsOf p.rules sReportUri) [] (by simp)
 simp [e1,m1,allVal]
 refine callS_val rfl rfl (.inl rfl) (i_settled p hb.2.2) ?_
 simp [rvPolicy,tx,bs_inj,e1,m1,PV.kill]
 by_cases hr:lrepTo p.rules=p.reportTo
 · rw [hr]
   simp [e1,m1,PV.kill]
   refine callS_val rfl rfl (.inl rfl) (i_Equal_str (luris p.rules) p.uris (by unfold luris;omega) (by omega)) ?_
   have:decide (luris p.rules=p.uris)=decide (p.uris=luris p.rules):=by rw [Bool.eq_iff_iff];simp [eq_comm]
   rw [this]
   simp
 · have hr2:¬ p.reportTo=lrepTo p.rules:=fun h=>hr h.symm
   simp [hr,hr2]
theorem i_PolicyOK (p:LPolicy) (hb:bdPolicy 1048576 p):CallOK Tryz.prog 80 [.val (rvPolicy p)] (.ret (.val (.bool (lpolicyOK p))) []) []:=by
 refine call_val mixed ok80 rfl (fun _=>rfl) ?_
 unfold ir80
 rw [evalC_intro]
 have hrl:=hb.2.2.1
 by_cases h8:p.rules.length≤8
 rotate_left
 · have h8':(8:Int) < p.rules.length:=by omega
   have:lpolicyOK p=false:=by unfold lpolicyOK;rw [decide_eq_false h8];rfl
   simp [initSt,avPVs,avPV,avBoxesL,avBoxes,rvPolicy,tx,h8',this]
 have h8':¬ (8:Int) < p.rules.length:=by omega
 simp [initSt,avPVs,avPV,avBoxesL,avBoxes,rvPolicy,tx,h8']
 refine loop_EC (X:=Nat) (fun i=>⟨envOf [(1,.ptr 1 0),(11,.val (.list 2 (p.rules.map rvRule))),(12,.val (num p.rules.length)),(13,.val (num i))],memOf [(1,.box [.val (tx p.reportTo),.val (.list 1 (p.uris.map tx)),.val (.list 2 (p.rules.map rvRule))])]⟩) (fun i=>i≤p.rules.length∧((p.rules.take i).all lruleOK && luniq ((p.rules.map fun r=>r.name).take i))=true) (fun i=>p.rules.length - i) 0 (Le.mk _ _ ?_ ?_) ?_ ?_
 · simp [upd,num]
 · simp [tx]
 · simp [luniq]
 · rintro i ⟨hi,hall⟩
   simp [num]
   refine iteP_intro (fun h1=>?_) (fun h1=>?_)
   · have hbr:=hb.2.2.2 _ (List.getElem_mem h1)
     have hst:(p.rules.take (i+1)).all lruleOK=((p.rules.take i).all lruleOK && lruleOK p.rules[i]):=all_take_succ _ _ _ h1
     have hst2:=luniq_take (p.rules.map fun r=>r.name) i (by simpa using h1)
     simp only [List.getElem_map] at hst2
     have hbad:=lpolicyOK_bad p i h1
     rw [Bool.and_eq_true] at hall
     rw [hall.1,Bool.true_and] at hst
     rw [hall.2,Bool.true_and] at hst2
     obtain ⟨r,hrk⟩:∃ r,p.rules[i]=r:=⟨_,rfl⟩
     rw [hrk] at hbr hst hst2 hbad
     simp [num,h1,hrk,rvRule,tx,PV.kill,allVal]
     refine callS_val rfl rfl (.inl rfl) (i_ruleOK r hbr) ?_
     cases hn:lruleOK r with
     | false=>
      have hb2:=hbad (by rw [hn];rfl)
      simp [hb2]
     | true=>
      have hi0:(0:Int)≤(i:Int):=by omega
      have hi1:(i:Int)≤(p.rules.length:Int):=by omega
      simp [num,tx,PV.kill,hi0,hi1]
      have hcf:=i_ContainsFunc_Rule_2 (p.rules.take i) 123 (tx r.name) (.list 1 (r.words.map tx)) (fun o=>decide (o.name=r.name)) (by simp;omega) (by kernel_rfl) (fun o _=>i_PolicyOK1 o r)
      rw [List.map_take] at hcf
      refine callS_valB (ids:=[4]) rfl rfl (by simp) (by decide) (by simp [SameB,evalC_skip,evalC_reg,evalC_draw,evalC_seq,evalC_cond,evalC_block,evalC_exit,evalC_ret,then_normal,then_exit,then_ret,then_pan,inBlock_normal,inBlock_ret,inBlock_pan,inBlock_exit,condS_bool,evalOps_nil,evalOps_cons,evalX_nil,evalX_cons,guardS_none,guardS_some,setD_some,setD_none,ev_t,ev_k,Option.getD_some,Option.getD_none,stepE_mov,stepE_pick,stepE_alloc,stepE_box,stepE_build,stepE_store,stepE_app,stepE_nilck,stepE_bin,stepE_eqb,stepE_eqs,stepE_un,stepE_conv,stepE_faddr,stepE_fld,stepE_load,stepE_iaddr,stepE_idx,stepE_slc,stepE_ext,stepE_lens,stepE_len,stepE_tostr,stepE_mkfn,stepE_ifc,stepE_mn,stepE_mx,stepE_mx4,stepE_mks,stepE_isnil,stepE_lit,stepE_call,stepE_callv,stepX_mov,stepX_nilck,stepX_bin,stepX_eqb,stepX_eqs,stepX_un,stepX_conv,stepX_faddr,stepX_fld,stepX_load,stepX_iaddr,stepX_idx,stepX_slc,stepX_ext,stepX_lens,stepX_len,stepX_tostr,stepX_mkfn,stepX_ifc,stepX_mn,stepX_mx,stepX_mx4,stepX_pick,stepX_build,stepX_lit,stepX_call,stepX_callv,binS_int,binS_str,binI_add,binI_sub,binI_mul,binI_quo,binI_rem,binI_eql,binI_neq,binI_lss,binI_leq,binI_gtr,binI_geq,binStr_add,binStr_eql,binStr_neq,unS_not,unS_neg,upd_app,envOf_nil,envOf_cons,memOf_nil,memOf_cons,RetP_ret,RetP_normal,resP_t,resP_tt,fin_env,frz_val,frz_emp,frz_own,pl_val,pl_emp,kill_val,kill_own,kill_ptr,kill_emp,kill_elt,kill_at,kill_undef,kill_fn,kill_skip,killM_row,killM_box,killM_dead,Kx_k,fillP_nil,fillP_cons,slc_lo,slc_hi,slc_lohi,slcl_lo,slcl_hi,Option.map_some,Option.map_none,iteP_true,iteP_false,onBool_val,onBool_skip,nilck_ptr,nilck_elt,nilck_at,nilck_fn,eqb_val,eqs_val,conv_val,faddr_ptr,faddr_elt,faddr_at,fld_val,fld_agg,load_ptr,loadBox_box,load_elt,loadRow_row,load_at,iaddr_lst,iaddr_own,iaddrRow_row,idx_val,ext_tup,lens_val,len_val,len_emp,len_own,lenRow_row,tostr_val,tostr_emp,tostr_own,tostrRow_row,ifc_val,mn_val,mx_val,mx4_val,lit_some,fn_fn,mks_val,isnil_nilif,isnil_ifc,isnil_emp,isnil_list,isnil_own,isnilRow_row,store_ptrK,storeBox_box,store_eltK,storeRow_row,add_some,app_own,app_emp,appRow_row,addOf_list,addOf_emp,addOf_own,rowOf_row,tx]) rfl hcf ?_
      have hany:((p.rules.take i).any fun o=>decide (o.name=r.name))=decide (r.name∈(p.rules.map fun r=>r.name).take i):=by
       rw [Bool.eq_iff_iff,← List.map_take]
       simp only [List.any_eq_true,decide_eq_true_eq,List.mem_map]
      rw [hany]
      by_cases hu:r.name∈(p.rules.map fun r=>r.name).take i
      · have hb2:=hbad (by rw [decide_eq_false (fun h=>h hu),Bool.and_false])
        rw [decide_eq_true hu]
        simp [hb2]
      · rw [decide_eq_true hu] at hst2
        rw [decide_eq_false hu]
        simp
        refine LoopNext.mk (i+1) ⟨by omega,by rw [hst,hst2,hn];rfl⟩ (by omega) (Le.mk _ _ ?_ ?_)
        · simp [num];exact wrap_i64 (by omega) (by omega)
        · simp [tx]
   · have e:i=p.rules.length:=by omega
     subst e
     rw [List.take_length,List.take_of_length_le (by simp)] at hall
     rw [lpolicyOK_eq p hall h8]
     simp
     refine ipol_from3 p hb _ ?_ ?_<;>simp [num,tx]
end Go.Proofs
end
