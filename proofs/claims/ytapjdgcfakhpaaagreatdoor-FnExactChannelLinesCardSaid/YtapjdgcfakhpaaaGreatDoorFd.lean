/- Fd: merged out of KXb, KXc, KXd, KXe. -/
import Derived.Test.YtapjdgcfakhpaaaGreatDoorFc
import Derived.Test.YtapjdgcfakhpaaaGreatDoorPWaf
import Derived.Test.YtapjdgcfakhpaaaGreatDoorPWag
set_option linter.unusedSectionVars false
set_option linter.unusedSimpArgs false
set_option linter.unusedVariables false
set_option maxRecDepth 100000
section
namespace Go.Proofs
open Go.PW Go.KP
attribute [local simp] RV.cells RV.one PV.cells PV.solid PV.one G6 i7 M3 L4 RV.ofCells elems PV.killL
variable [GF]
attribute [local simp] a6x b1y b76 b77 b75 b5i a39 b2s a8g b63 b00 b2z a83
theorem a5m {α:Type} {f:α→RV} (h:∀ x,(f x).flat=true) (l:List α):∀ x∈l.map f,x.flat=true:=fun x hx=>by
 obtain ⟨y,_,rfl⟩:=List.mem_map.1 hx
 exact h y
theorem a8s (l:List Tx) (k j:Nat) (hk:k < 16) (hx:bdS 1048576 (fun t=>t.length≤1048576) l):S2 Tryz.prog 70 [.val (.list 1 (l.map tx))] (fun _=>.dead) (fun _=>false) (.own (DN k j)) (dyn fun k' j'=>if k'=k∧j'=j then .row 9 1 (l.map tx) else .dead):=
 a9f (b2q l hx) (a5m (fun _=>rfl) l) k j hk
theorem d1k (l:List Int) (k j:Nat) (hk:k < 16) (hx:l.length≤1048576):S2 Tryz.prog 167 [.val (.list 1 (l.map num))] (fun _=>.dead) (fun _=>false) (.own (DN k j)) (dyn fun k' j'=>if k'=k∧j'=j then .row 3 1 (l.map num) else .dead):=
 a9f (b7r l hx) (a5m (fun _=>rfl) l) k j hk
theorem c2h (l:List LTarget) (k j:Nat) (hk:k < 16) (hx:bdS 1048576 (U9 1048576) l):S2 Tryz.prog 226 [.val (.list 3 (l.map f9))] (fun _=>.dead) (fun _=>false) (.own (DN k j)) (dyn fun k' j'=>if k'=k∧j'=j then .row 185 3 (l.map f9) else .dead):=
 a9f (b2p l hx) (a5m (fun _=>rfl) l) k j hk
theorem c8u (l:List LPeer) (k j:Nat) (hk:k < 16) (hx:bdS 1048576 (a1n 1048576) l):S2 Tryz.prog 165 [.val (.list 6 (l.map A6))] (fun _=>.dead) (fun _=>false) (.own (DN k j)) (dyn fun k' j'=>if k'=k∧j'=j then .row 194 6 (l.map A6) else .dead):=
 a9f (b55 l hx) (a5m (fun _=>rfl) l) k j hk
theorem c2i (l:List LReport) (k j:Nat) (hk:k < 16) (hx:bdS 1048576 (X9 1048576) l):S2 Tryz.prog 228 [.val (.list 4 (l.map i8))] (fun _=>.dead) (fun _=>false) (.own (DN k j)) (dyn fun k' j'=>if k'=k∧j'=j then .row 174 4 (l.map i8) else .dead):=
 a9f (b2r l hx) (a5m (fun _=>rfl) l) k j hk
theorem c5g (l:List LEntry) (k j:Nat) (hk:k < 16) (hx:l.length≤1048576):S2 Tryz.prog 52 [.val (.list 3 (l.map G5))] (fun _=>.dead) (fun _=>false) (.own (DN k j)) (dyn fun k' j'=>if k'=k∧j'=j then .row 157 3 (l.map G5) else .dead):=
 a9f (b35 l hx) (a5m (fun _=>rfl) l) k j hk
def a4k (x:LGroup) (j:Nat):List PV:=[.val (tx x.name),.val (num x.age),.own (DN 5 j)]
def a2w (x:LGroup) (k:Nat):MObj:=if k=5 then .row 185 3 (x.targets.map f9) else .dead
theorem a74 (x:LGroup) (k:Nat):((k=5)∧∃ E sz xs,a2w x k=.row E sz xs)∨a2w x k=.dead∧¬ (k=5):=by
 by_cases h:k=5
 · refine .inl ⟨h,?_⟩
   unfold a2w
   subst h;simp
 · refine .inr ⟨?_,h⟩
   unfold a2w
   skip
   simp [h]
theorem b6v (x:LGroup) (j:Nat) {S:Nat→Bool} (h:∀ k,(k=5)→S (DN k j)=true):(PV.agg (a4k x j)).onT S:=by
 refine a2o fun p hp=>?_
 simp only [a4k,List.mem_cons,List.not_mem_nil,or_false] at hp
 rcases hp with rfl | rfl | rfl
 · exact T0
 · exact T0
 · exact P1 (h _ (by simp))
theorem c8v (x:LGroup) (j:Nat) (hx:a2d 1048576 x):S2 Tryz.prog 164 [.val (M4 x)] (fun _=>.dead) (fun _=>false) (.agg (a4k x j)) (dyn fun k i=>if i=j then a2w x k else .dead):=by
 refine Z3 mixed ok164 (fun i h=>by cases h) (fun i h=>by cases h) ?_
 unfold ir164
 rw [b6]
 unfold a2d at hx
 obtain ⟨b0,b1⟩:=hx
 simp [M4,tx,num]
 refine a3x (rs:=[.list 3 (x.targets.map f9)]) (fun k' i'=>k' == 5 && i' == j) rfl (c2h x.targets 5 j (by omega) b1) ?_ ?_ ?_
 · intro k i hk hl
   by_cases h:k=5∧i=j
   · rw [if_pos h]
     exact ⟨by simp [h],U3,fun cs h=>by cases h⟩
   · rw [if_neg h] at hl;cases hl
 · exact P1 (by simp)
 simp [M4,tx,num]
 refine b0n _ ?_ ?_ ?_ ?_
 · simp [a4k,a2w,M4,tx,num,T9,a49]
 · intro k i hk hl
   by_cases h:i=j
   · subst h
     rw [if_pos rfl] at hl ⊢
     rcases a74 x k with ⟨h,E,sz,xs,e⟩ | ⟨h,_⟩
     · subst h<;>simp [a4k,a2w]
     · rw [h] at hl;cases hl
   · rw [if_neg h] at hl;cases hl
 · exact b6v x j fun k _=>by simp
 · intro k i hk
   by_cases h:i=j
   · rw [if_pos h]
     rcases a74 x k with ⟨h,E,sz,xs,e⟩ | ⟨h,_⟩
     · rw [e];exact U3
     · rw [h];exact Z1
   · rw [if_neg h];exact Z1
def a4j (x:LQueue) (j:Nat):List PV:=[.own (DN 7 j),.own (DN 8 j)]
def a2v (x:LQueue) (k:Nat):MObj:=if k=7 then .row 174 4 (x.items.map i8) else if k=8 then .row 9 1 (x.recent.map tx) else .dead
theorem a73 (x:LQueue) (k:Nat):((k=7∨k=8)∧∃ E sz xs,a2v x k=.row E sz xs)∨a2v x k=.dead∧¬ (k=7∨k=8):=by
 by_cases h:k=7∨k=8
 · refine .inl ⟨h,?_⟩
   unfold a2v
   rcases h with rfl | rfl<;>simp
 · refine .inr ⟨?_,h⟩
   unfold a2v
   simp only [not_or] at h
   simp [h]
theorem b6u (x:LQueue) (j:Nat) {S:Nat→Bool} (h:∀ k,(k=7∨k=8)→S (DN k j)=true):(PV.agg (a4j x j)).onT S:=by
 refine a2o fun p hp=>?_
 simp only [a4j,List.mem_cons,List.not_mem_nil,or_false] at hp
 rcases hp with rfl | rfl
 · exact P1 (h _ (by simp))
 · exact P1 (h _ (by simp))
theorem c8t (x:LQueue) (j:Nat) (hx:a2y 1048576 x):S2 Tryz.prog 166 [.val (L5 x)] (fun _=>.dead) (fun _=>false) (.agg (a4j x j)) (dyn fun k i=>if i=j then a2v x k else .dead):=by
 refine Z3 mixed ok166 (fun i h=>by cases h) (fun i h=>by cases h) ?_
 unfold ir166
 rw [b6]
 unfold a2y at hx
 obtain ⟨b0,b1⟩:=hx
 simp [L5,tx,num]
 refine a3x (rs:=[.list 4 (x.items.map i8)]) (fun k' i'=>k' == 7 && i' == j) rfl (c2i x.items 7 j (by omega) b0) ?_ ?_ ?_
 · intro k i hk hl
   by_cases h:k=7∧i=j
   · rw [if_pos h]
     exact ⟨by simp [h],U3,fun cs h=>by cases h⟩
   · rw [if_neg h] at hl;cases hl
 · exact P1 (by simp)
 simp [L5,tx,num]
 refine a3x (rs:=[.list 1 (x.recent.map tx)]) (fun k' i'=>k' == 8 && i' == j) rfl (a8s x.recent 8 j (by omega) b1) ?_ ?_ ?_
 · intro k i hk hl
   by_cases h:k=8∧i=j
   · rw [if_pos h]
     exact ⟨by simp [h],U3,fun cs h=>by cases h⟩
   · rw [if_neg h] at hl;cases hl
 · exact P1 (by simp)
 simp [L5,tx,num]
 refine b0n _ ?_ ?_ ?_ ?_
 · simp [a4j,a2v,L5,tx,num,T9,a49]
 · intro k i hk hl
   by_cases h:i=j
   · subst h
     rw [if_pos rfl] at hl ⊢
     rcases a73 x k with ⟨h,E,sz,xs,e⟩ | ⟨h,_⟩
     · rcases h with rfl | rfl<;>simp [a4j,a2v]
     · rw [h] at hl;cases hl
   · rw [if_neg h] at hl;cases hl
 · exact b6u x j fun k _=>by simp
 · intro k i hk
   by_cases h:i=j
   · rw [if_pos h]
     rcases a73 x k with ⟨h,E,sz,xs,e⟩ | ⟨h,_⟩
     · rw [e];exact U3
     · rw [h];exact Z1
   · rw [if_neg h];exact Z1
def a15 (x:LRule) (j:Nat):List PV:=[.val (tx x.name),.own (DN 9 j)]
def a2z (x:LRule) (k:Nat):MObj:=if k=9 then .row 9 1 (x.words.map tx) else .dead
theorem a5d (x:LRule) (k:Nat):((k=9)∧∃ E sz xs,a2z x k=.row E sz xs)∨a2z x k=.dead∧¬ (k=9):=by
 by_cases h:k=9
 · refine .inl ⟨h,?_⟩
   unfold a2z
   subst h;simp
 · refine .inr ⟨?_,h⟩
   unfold a2z
   skip
   simp [h]
theorem b8l (x:LRule) (j:Nat) {S:Nat→Bool} (h:∀ k,(k=9)→S (DN k j)=true):(PV.agg (a15 x j)).onT S:=by
 refine a2o fun p hp=>?_
 simp only [a15,List.mem_cons,List.not_mem_nil,or_false] at hp
 rcases hp with rfl | rfl
 · exact T0
 · exact P1 (h _ (by simp))
theorem d1j (x:LRule) (j:Nat) (hx:Y2 1048576 x):S2 Tryz.prog 129 [.val (l7 x)] (fun _=>.dead) (fun _=>false) (.agg (a15 x j)) (dyn fun k i=>if i=j then a2z x k else .dead):=by
 refine Z3 mixed ok129 (fun i h=>by cases h) (fun i h=>by cases h) ?_
 unfold ir129
 rw [b6]
 unfold Y2 at hx
 obtain ⟨b0,b1⟩:=hx
 simp [l7,tx,num]
 refine a3x (rs:=[.list 1 (x.words.map tx)]) (fun k' i'=>k' == 9 && i' == j) rfl (a8s x.words 9 j (by omega) b1) ?_ ?_ ?_
 · intro k i hk hl
   by_cases h:k=9∧i=j
   · rw [if_pos h]
     exact ⟨by simp [h],U3,fun cs h=>by cases h⟩
   · rw [if_neg h] at hl;cases hl
 · exact P1 (by simp)
 simp [l7,tx,num]
 refine b0n _ ?_ ?_ ?_ ?_
 · simp [a15,a2z,l7,tx,num,T9,a49]
 · intro k i hk hl
   by_cases h:i=j
   · subst h
     rw [if_pos rfl] at hl ⊢
     rcases a5d x k with ⟨h,E,sz,xs,e⟩ | ⟨h,_⟩
     · subst h<;>simp [a15,a2z]
     · rw [h] at hl;cases hl
   · rw [if_neg h] at hl;cases hl
 · exact b8l x j fun k _=>by simp
 · intro k i hk
   by_cases h:i=j
   · rw [if_pos h]
     rcases a5d x k with ⟨h,E,sz,xs,e⟩ | ⟨h,_⟩
     · rw [e];exact U3
     · rw [h];exact Z1
   · rw [if_neg h];exact Z1
def a1f (x:LWire) (j:Nat):List PV:=[.val (num x.at_),.val (num x.status),.val (tx x.group),.val (tx x.url),.own (DN 10 j),.val (tx x.body),.val (.bool x.lost)]
def a1v (x:LWire) (k:Nat):MObj:=if k=10 then .row 3 1 (x.ids.map num) else .dead
theorem a5c (x:LWire) (k:Nat):((k=10)∧∃ E sz xs,a1v x k=.row E sz xs)∨a1v x k=.dead∧¬ (k=10):=by
 by_cases h:k=10
 · refine .inl ⟨h,?_⟩
   unfold a1v
   subst h;simp
 · refine .inr ⟨?_,h⟩
   unfold a1v
   skip
   simp [h]
theorem b8k (x:LWire) (j:Nat) {S:Nat→Bool} (h:∀ k,(k=10)→S (DN k j)=true):(PV.agg (a1f x j)).onT S:=by
 refine a2o fun p hp=>?_
 simp only [a1f,List.mem_cons,List.not_mem_nil,or_false] at hp
 rcases hp with rfl | rfl | rfl | rfl | rfl | rfl | rfl
 · exact T0
 · exact T0
 · exact T0
 · exact T0
 · exact P1 (h _ (by simp))
 · exact T0
 · exact T0
theorem d1i (x:LWire) (j:Nat) (hx:a0c 1048576 x):S2 Tryz.prog 103 [.val (I0 x)] (fun _=>.dead) (fun _=>false) (.agg (a1f x j)) (dyn fun k i=>if i=j then a1v x k else .dead):=by
 refine Z3 mixed ok103 (fun i h=>by cases h) (fun i h=>by cases h) ?_
 unfold ir103
 rw [b6]
 unfold a0c at hx
 obtain ⟨b0,b1,b2,b3⟩:=hx
 simp [I0,tx,num]
 refine a3x (rs:=[.list 1 (x.ids.map num)]) (fun k' i'=>k' == 10 && i' == j) rfl (d1k x.ids 10 j (by omega) b2) ?_ ?_ ?_
 · intro k i hk hl
   by_cases h:k=10∧i=j
   · rw [if_pos h]
     exact ⟨by simp [h],U3,fun cs h=>by cases h⟩
   · rw [if_neg h] at hl;cases hl
 · exact P1 (by simp)
 simp [I0,tx,num]
 refine b0n _ ?_ ?_ ?_ ?_
 · simp [a1f,a1v,I0,tx,num,T9,a49]
 · intro k i hk hl
   by_cases h:i=j
   · subst h
     rw [if_pos rfl] at hl ⊢
     rcases a5c x k with ⟨h,E,sz,xs,e⟩ | ⟨h,_⟩
     · subst h<;>simp [a1f,a1v]
     · rw [h] at hl;cases hl
   · rw [if_neg h] at hl;cases hl
 · exact b8k x j fun k _=>by simp
 · intro k i hk
   by_cases h:i=j
   · rw [if_pos h]
     rcases a5c x k with ⟨h,E,sz,xs,e⟩ | ⟨h,_⟩
     · rw [e];exact U3
     · rw [h];exact Z1
   · rw [if_neg h];exact Z1
def S9 (x:LChannel) (j:Nat):List PV:=[.val (tx x.group.name),.val (num x.group.age),.own (DN 5 j),.own (DN 6 j),.own (DN 7 j),.own (DN 8 j)]
def U0 (x:LChannel) (k:Nat):MObj:=if k=5 then .row 185 3 (x.group.targets.map f9) else if k=6 then .row 194 6 (x.peers.map A6) else if k=7 then .row 174 4 (x.queue.items.map i8) else if k=8 then .row 9 1 (x.queue.recent.map tx) else .dead
theorem a2n (x:LChannel) (k:Nat):((k=5∨k=6∨k=7∨k=8)∧∃ E sz xs,U0 x k=.row E sz xs)∨U0 x k=.dead∧¬ (k=5∨k=6∨k=7∨k=8):=by
 by_cases h:k=5∨k=6∨k=7∨k=8
 · refine .inl ⟨h,?_⟩
   unfold U0
   rcases h with rfl | rfl | rfl | rfl<;>simp
 · refine .inr ⟨?_,h⟩
   unfold U0
   simp only [not_or] at h
   simp [h]
theorem b1u (x:LChannel) (j:Nat) {S:Nat→Bool} (h:∀ k,(k=5∨k=6∨k=7∨k=8)→S (DN k j)=true):(PV.agg (S9 x j)).onT S:=by
 refine a2o fun p hp=>?_
 simp only [S9,List.mem_cons,List.not_mem_nil,or_false] at hp
 rcases hp with rfl | rfl | rfl | rfl | rfl | rfl
 · exact T0
 · exact T0
 · exact P1 (h _ (by simp))
 · exact P1 (h _ (by simp))
 · exact P1 (h _ (by simp))
 · exact P1 (h _ (by simp))
theorem c2k (x:LChannel) (j:Nat) (hx:R4 1048576 x):S2 Tryz.prog 101 [.val (j6 x)] (fun _=>.dead) (fun _=>false) (.agg (S9 x j)) (dyn fun k i=>if i=j then U0 x k else .dead):=by
 refine Z3 mixed ok101 (fun i h=>by cases h) (fun i h=>by cases h) ?_
 unfold ir101
 rw [b6]
 unfold R4 at hx
 obtain ⟨b0,b1,b2⟩:=hx
 simp [M4,L5,j6,tx,num]
 refine a3x (rs:=[M4 x.group]) (fun k' i'=>(k' == 5) && i' == j) rfl (c8v x.group j b0) ?_ ?_ ?_
 · intro k' i' hk hl
   by_cases h:i'=j
   · subst h
     rw [if_pos rfl] at hl ⊢
     rcases a74 x.group k' with ⟨h,E,sz,xs,e⟩ | ⟨h,_⟩
     · rw [e];exact ⟨by subst h;simp,U3,fun cs h=>by cases h⟩
     · rw [h] at hl;cases hl
   · rw [if_neg h] at hl;cases hl
 · refine b6v x.group j fun k hk=>?_
   subst hk;simp
 simp [M4,L5,j6,a4k,a2w,a4j,a2v,tx,num]
 refine a3x (rs:=[.list 6 (x.peers.map A6)]) (fun k' i'=>k' == 6 && i' == j) rfl (c8u x.peers 6 j (by omega) b1) ?_ ?_ ?_
 · intro k i hk hl
   by_cases h:k=6∧i=j
   · rw [if_pos h]
     exact ⟨by simp [h],U3,fun cs h=>by cases h⟩
   · rw [if_neg h] at hl;cases hl
 · exact P1 (by simp)
 simp [M4,L5,j6,a4k,a2w,a4j,a2v,tx,num]
 refine a3x (rs:=[L5 x.queue]) (fun k' i'=>(k' == 7 || k' == 8) && i' == j) rfl (c8t x.queue j b2) ?_ ?_ ?_
 · intro k' i' hk hl
   by_cases h:i'=j
   · subst h
     rw [if_pos rfl] at hl ⊢
     rcases a73 x.queue k' with ⟨h,E,sz,xs,e⟩ | ⟨h,_⟩
     · rw [e];exact ⟨by rcases h with rfl | rfl<;>simp,U3,fun cs h=>by cases h⟩
     · rw [h] at hl;cases hl
   · rw [if_neg h] at hl;cases hl
 · refine b6u x.queue j fun k hk=>?_
   rcases hk with rfl | rfl<;>simp
 simp [M4,L5,j6,a4k,a2w,a4j,a2v,tx,num]
 refine b0n _ ?_ ?_ ?_ ?_
 · simp [a4k,a2w,a4j,a2v,S9,U0,M4,L5,j6,tx,num,T9,a49]
 · intro k i hk hl
   by_cases h:i=j
   · subst h
     rw [if_pos rfl] at hl ⊢
     rcases a2n x k with ⟨h,E,sz,xs,e⟩ | ⟨h,_⟩
     · rcases h with rfl | rfl | rfl | rfl<;>simp [a4k,a2w,a4j,a2v,S9,U0]
     · rw [h] at hl;cases hl
   · rw [if_neg h] at hl;cases hl
 · exact b1u x j fun k _=>by simp
 · intro k i hk
   by_cases h:i=j
   · rw [if_pos h]
     rcases a2n x k with ⟨h,E,sz,xs,e⟩ | ⟨h,_⟩
     · rw [e];exact U3
     · rw [h];exact Z1
   · rw [if_neg h];exact Z1
def T1 (l:List LChannel) (j k:Nat):PV:=match l[j]? with
 | some x=>(S9 x j).getD k .undef
 | none=>.undef
def V2 (l:List LChannel):MObj:=.prow 154 6 l.length (T1 l)
def R1 (l:List LChannel) (k j:Nat):MObj:=match l[j]? with
 | some x=>U0 x k
 | none=>.dead
theorem c0a (x:LChannel) (j k:Nat):(∃ r,(S9 x j).getD k .undef=.val r)∨(S9 x j).getD k .undef=.undef∨(∃ k',(k'=5∨k'=6∨k'=7∨k'=8)∧(S9 x j).getD k .undef=.own (DN k' j)):=by
 unfold S9
 by_cases h:k < 6
 · have:k=0∨k=1∨k=2∨k=3∨k=4∨k=5:=by omega
   rcases this with rfl | rfl | rfl | rfl | rfl | rfl<;>simp
 · rw [List.getD_eq_getElem?_getD,List.getElem?_eq_none (by simp;omega)]
   exact .inr (.inl rfl)
theorem a9v (l:List LChannel) (j k:Nat):(∃ r,T1 l j k=.val r)∨T1 l j k=.undef∨(∃ k',(k'=5∨k'=6∨k'=7∨k'=8)∧T1 l j k=.own (DN k' j)):=by
 unfold T1
 cases l[j]? with
 | none=>exact .inr (.inl rfl)
 | some x=>exact c0a x j k
theorem b3z (l:List LChannel) (j k:Nat) (d:Nat→Bool) (h:∀ k',(k'=5∨k'=6∨k'=7∨k'=8)→d (DN k' j)=false):(T1 l j k).kill d=T1 l j k:=by
 rcases a9v l j k with ⟨r,e⟩ | e | ⟨k',hk,e⟩<;>rw [e]<;>simp only [PV.kill]
 rw [h k' hk];rfl
theorem a4h (l:List LChannel) (k j:Nat):((k=5∨k=6∨k=7∨k=8)∧j < l.length∧∃ E sz xs,R1 l k j=.row E sz xs)∨R1 l k j=.dead:=by
 unfold R1
 by_cases h:j < l.length
 · rw [List.getElem?_eq_getElem h]
   rcases a2n l[j] k with ⟨h',e⟩ | ⟨h,_⟩
   · exact .inl ⟨h',h,e⟩
   · exact .inr h
 · rw [List.getElem?_eq_none (by omega)];exact .inr rfl
theorem b6d (l:List LChannel) (k j:Nat) (d:Nat→Bool):(R1 l k j).kill d=R1 l k j:=by
 rcases a4h l k j with ⟨_,_,E,sz,xs,e⟩ | e<;>rw [e]<;>rfl
theorem b1c (l:List LChannel) {S:Nat→Bool} (h:∀ k j,(k=5∨k=6∨k=7∨k=8)→S (DN k j)=true):(V2 l).onT S:=by
 refine b5c fun j k=>?_
 rcases a9v l j k with ⟨r,e⟩ | e | ⟨k',hk,e⟩
 · exact .inl ⟨r,e⟩
 · exact .inr (.inl e)
 · exact .inr (.inr (.inr ⟨_,e,h k' j hk⟩))
def P5 (l:List LChannel) (k i:Nat):MObj:=if k=0∧i=0 then V2 l else R1 l k i
theorem a2a (l:List LChannel) (k i:Nat) {S:Nat→Bool} (hS:∀ k j,(k=5∨k=6∨k=7∨k=8)→S (DN k j)=true) (h:(P5 l k i).live=true):((k == 5 || k == 6 || k == 7 || k == 8) || (k == 0 && i == 0))=true∧(P5 l k i).onT S∧∀ cs,P5 l k i≠.box cs:=by
 unfold P5 at h ⊢
 by_cases h0:k=0∧i=0
 · rw [if_pos h0]
   exact ⟨by simp [h0],b1c l hS,fun cs h=>by cases h⟩
 · rw [if_neg h0] at h ⊢
   rcases a4h l k i with ⟨h',_,E,sz,xs,e⟩ | e
   · rw [e]
     refine ⟨?_,U3,fun cs h=>by cases h⟩
     rcases h' with rfl | rfl | rfl | rfl<;>simp
   · rw [e] at h;cases h
theorem a67 (l:List LChannel) (k i:Nat) {S:Nat→Bool} (hS:∀ k j,(k=5∨k=6∨k=7∨k=8)→S (DN k j)=true):(P5 l k i).onT S:=by
 cases hl:(P5 l k i).live with
 | true=>exact (a2a l k i hS hl).2.1
 | false=>cases hm:P5 l k i<;>rw [hm] at hl<;>first | exact Z1 | cases hl
theorem a3j (l:List LChannel) (k i:Nat) (d:Nat→Bool) (h:∀ k j,(k=5∨k=6∨k=7∨k=8)→d (DN k j)=false):(P5 l k i).kill d=P5 l k i:=
 (a67 l k i (S:=fun x=>!d x) fun k j hk=>by simp [h k j hk]).2 d fun x hx=>by simpa using hx
theorem b94 (l:List LChannel) (hx:bdS 1048576 (R4 1048576) l):S2 Tryz.prog 51 [.val (.list 6 (l.map j6))] (fun _=>.dead) (fun _=>false) (.own (DN 0 0)) (dyn (P5 l)):=by
 refine Z3 mixed okp51 (fun i h=>by cases h) (fun i h=>by cases h) ?_
 unfold irp51
 rw [b6]
 have hl:l.length≤1048576:=hx.1
 simp [num,G6]
 refine ⟨by omega,by omega,?_⟩
 refine j8 (X:=Nat) (fun i=>⟨u0 [(0,.val (.list 6 (l.map j6))),(3,.own 7),(4,.val (num i))],b1f [(7,.prow 154 6 l.length fun j k=>if j < i then T1 l j k else .undef)] (fun k j=>if j < i then R1 l k j else .dead)⟩) (fun i=>i≤l.length) (fun i=>l.length - i) 0 (Le.mkDN _ _ _ ?_ ?_ ?_) (Nat.zero_le _) ?_
 · simp [upd,num,PV.kill]
 · intro kp hkp
   rw [List.mem_singleton.1 hkp]
   simp [upd]
   refine .rowp _ _ _ _ _ (by simp) fun j k hj hk=>?_
   exact .undef _
 · intro k j hk
   simp
   exact .dead _
 · intro i hi
   simp [num,u4,A5]
   refine f7 (fun h1=>?_) (fun h1=>?_)
   · obtain ⟨x,hxe⟩:∃ x,l[i]=x:=⟨_,rfl⟩
     have he:l[i]?=some x:=by rw [List.getElem?_eq_getElem h1,hxe]
     have hbx:R4 1048576 x:=by rw [← hxe];exact hx.2 _ (List.getElem_mem h1)
     simp [num,h1,he,hxe,u4,A5,j6]
     refine a3x (rs:=[j6 x]) (fun k' i'=>(k' == 5 || k' == 6 || k' == 7 || k' == 8) && i' == i) rfl (c2k x i hbx) ?_ ?_ ?_
     · intro k' i' hk hl
       by_cases h:i'=i
       · subst h
         rw [if_pos rfl] at hl ⊢
         rcases a2n x k' with ⟨h,E,sz,xs,e⟩ | ⟨h,_⟩
         · rw [e];exact ⟨by rcases h with rfl | rfl | rfl | rfl<;>simp,U3,fun cs h=>by cases h⟩
         · rw [h] at hl;cases hl
       · rw [if_neg h] at hl;cases hl
     · refine b1u x i fun k h=>?_
       rcases h with rfl | rfl | rfl | rfl<;>simp
     simp [num,tx,h1,he,u4,A5,S9,U0]
     refine LoopNext.mk (i+1) h1 (by omega) (Le.mkDN _ _ _ ?_ ?_ ?_)
     · simp [num]
       exact wrap_i64 (by omega) (by omega)
     · intro kp hkp
       rw [List.mem_singleton.1 hkp]
       simp [u4,A5]
       refine .prow _ _ _ _ _ fun j k hj hk=>?_
       by_cases hji:j=i
       · subst hji
         have e:T1 l j k=(S9 x j).getD k .undef:=by unfold T1;rw [he]
         rw [if_pos ⟨rfl,hk⟩,if_pos (by omega),e]
         exact .refl _
       · rw [if_neg (fun h=>hji h.1)]
         by_cases hj2:j < i
         · rw [if_pos hj2,if_pos (by omega),b3z]
           · exact .refl _
           · intro k h
             rcases h with rfl | rfl | rfl | rfl<;>simp [hji]
         · rw [if_neg (by omega),if_neg (by omega)];exact .undef _
     · intro k j hk
       by_cases hji:j=i
       · subst hji
         have e:R1 l k j=U0 x k:=by unfold R1;rw [he]
         simp [hk,u4,A5]
         rw [e]
         rcases a2n x k with ⟨h,E,sz,xs,e⟩ | ⟨h,_⟩
         · rcases h with rfl | rfl | rfl | rfl<;>simp [U0]<;>exact .refl _
         · rw [h];exact .dead _
       · simp [hk,u4,A5,hji]
         by_cases hj2:j < i
         · rw [if_pos hj2,if_pos (by omega),b6d];exact .refl _
         · rw [if_neg (by omega),if_neg (by omega)];exact .dead _
   · have e:i=l.length:=by omega
     subst e
     simp [num,u4,A5]
     refine c5b [(DN 0 0,7,V2 l)] (fun k j=>R1 l k j) ?_ ?_ ?_ ?_ ?_ ?_
     · intro k j hk
       simp [a65,P5,hk]
     · simp [ioL,PV.ren,T9,a49]
     · intro e he
       rw [List.mem_singleton.1 he]
       refine ⟨by simp,by simp,?_⟩
       have:(V2 l).ren (ioL [(DN 0 0,7,V2 l)])=V2 l:=(b1c l (S:=TD (fun k i=>(k == 5 || k == 6 || k == 7 || k == 8))) fun k j h=>by rcases h with rfl | rfl | rfl | rfl<;>simp).1 _ fun x hx=>by
        refine b9u fun e he=>?_
        rw [List.mem_singleton.1 he]
        rintro rfl
        simp at hx
       rw [this]
       simp [u4,A5,V2]
       funext j k
       by_cases hj:j < l.length
       · rw [if_pos hj]
       · rw [if_neg hj];unfold T1;rw [List.getElem?_eq_none (by omega)]
     · simp
     · intro e he
       rw [List.mem_singleton.1 he];simp
     · intro k j hk hl _
       rcases a4h l k j with ⟨_,hj,E,sz,xs,e⟩ | e
       · simp [u4,A5,hk,hj]
         rw [e];rfl
       · rw [e] at hl;cases hl
def a0i (l:List LRule) (j k:Nat):PV:=match l[j]? with
 | some x=>(a15 x j).getD k .undef
 | none=>.undef
def a00 (l:List LRule):MObj:=.prow 181 2 l.length (a0i l)
def a12 (l:List LRule) (k j:Nat):MObj:=match l[j]? with
 | some x=>a2z x k
 | none=>.dead
theorem c89 (x:LRule) (j k:Nat):(∃ r,(a15 x j).getD k .undef=.val r)∨(a15 x j).getD k .undef=.undef∨(∃ k',(k'=9)∧(a15 x j).getD k .undef=.own (DN k' j)):=by
 unfold a15
 by_cases h:k < 2
 · have:k=0∨k=1:=by omega
   rcases this with rfl | rfl<;>simp
 · rw [List.getD_eq_getElem?_getD,List.getElem?_eq_none (by simp;omega)]
   exact .inr (.inl rfl)
theorem b5g (l:List LRule) (j k:Nat):(∃ r,a0i l j k=.val r)∨a0i l j k=.undef∨(∃ k',(k'=9)∧a0i l j k=.own (DN k' j)):=by
 unfold a0i
 cases l[j]? with
 | none=>exact .inr (.inl rfl)
 | some x=>exact c89 x j k
theorem b88 (l:List LRule) (j k:Nat) (d:Nat→Bool) (h:∀ k',(k'=9)→d (DN k' j)=false):(a0i l j k).kill d=a0i l j k:=by
 rcases b5g l j k with ⟨r,e⟩ | e | ⟨k',hk,e⟩<;>rw [e]<;>simp only [PV.kill]
 rw [h k' hk];rfl
theorem a7e (l:List LRule) (k j:Nat):((k=9)∧j < l.length∧∃ E sz xs,a12 l k j=.row E sz xs)∨a12 l k j=.dead:=by
 unfold a12
 by_cases h:j < l.length
 · rw [List.getElem?_eq_getElem h]
   rcases a5d l[j] k with ⟨h',e⟩ | ⟨h,_⟩
   · exact .inl ⟨h',h,e⟩
   · exact .inr h
 · rw [List.getElem?_eq_none (by omega)];exact .inr rfl
theorem c2c (l:List LRule) (k j:Nat) (d:Nat→Bool):(a12 l k j).kill d=a12 l k j:=by
 rcases a7e l k j with ⟨_,_,E,sz,xs,e⟩ | e<;>rw [e]<;>rfl
theorem b74 (l:List LRule) {S:Nat→Bool} (h:∀ k j,(k=9)→S (DN k j)=true):(a00 l).onT S:=by
 refine b5c fun j k=>?_
 rcases b5g l j k with ⟨r,e⟩ | e | ⟨k',hk,e⟩
 · exact .inl ⟨r,e⟩
 · exact .inr (.inl e)
 · exact .inr (.inr (.inr ⟨_,e,h k' j hk⟩))
def V0 (l:List LRule) (k i:Nat):MObj:=if k=2∧i=0 then a00 l else a12 l k i
theorem a6n (l:List LRule) (k i:Nat) {S:Nat→Bool} (hS:∀ k j,(k=9)→S (DN k j)=true) (h:(V0 l k i).live=true):((k == 9) || (k == 2 && i == 0))=true∧(V0 l k i).onT S∧∀ cs,V0 l k i≠.box cs:=by
 unfold V0 at h ⊢
 by_cases h0:k=2∧i=0
 · rw [if_pos h0]
   exact ⟨by simp [h0],b74 l hS,fun cs h=>by cases h⟩
 · rw [if_neg h0] at h ⊢
   rcases a7e l k i with ⟨h',_,E,sz,xs,e⟩ | e
   · rw [e]
     refine ⟨?_,U3,fun cs h=>by cases h⟩
     subst h';simp
   · rw [e] at h;cases h
theorem c7m (l:List LRule) (k i:Nat) {S:Nat→Bool} (hS:∀ k j,(k=9)→S (DN k j)=true):(V0 l k i).onT S:=by
 cases hl:(V0 l k i).live with
 | true=>exact (a6n l k i hS hl).2.1
 | false=>cases hm:V0 l k i<;>rw [hm] at hl<;>first | exact Z1 | cases hl
theorem c1c (l:List LRule) (k i:Nat) (d:Nat→Bool) (h:∀ k j,(k=9)→d (DN k j)=false):(V0 l k i).kill d=V0 l k i:=
 (c7m l k i (S:=fun x=>!d x) fun k j hk=>by simp [h k j hk]).2 d fun x hx=>by simpa using hx
theorem c8s (l:List LRule) (hx:bdS 1048576 (Y2 1048576) l):S2 Tryz.prog 71 [.val (.list 2 (l.map l7))] (fun _=>.dead) (fun _=>false) (.own (DN 2 0)) (dyn (V0 l)):=by
 refine Z3 mixed okp71 (fun i h=>by cases h) (fun i h=>by cases h) ?_
 unfold irp71
 rw [b6]
 have hl:l.length≤1048576:=hx.1
 simp [num,G6]
 refine ⟨by omega,by omega,?_⟩
 refine j8 (X:=Nat) (fun i=>⟨u0 [(0,.val (.list 2 (l.map l7))),(3,.own 7),(4,.val (num i))],b1f [(7,.prow 181 2 l.length fun j k=>if j < i then a0i l j k else .undef)] (fun k j=>if j < i then a12 l k j else .dead)⟩) (fun i=>i≤l.length) (fun i=>l.length - i) 0 (Le.mkDN _ _ _ ?_ ?_ ?_) (Nat.zero_le _) ?_
 · simp [upd,num,PV.kill]
 · intro kp hkp
   rw [List.mem_singleton.1 hkp]
   simp [upd]
   refine .rowp _ _ _ _ _ (by simp) fun j k hj hk=>?_
   exact .undef _
 · intro k j hk
   simp
   exact .dead _
 · intro i hi
   simp [num,u4,A5]
   refine f7 (fun h1=>?_) (fun h1=>?_)
   · obtain ⟨x,hxe⟩:∃ x,l[i]=x:=⟨_,rfl⟩
     have he:l[i]?=some x:=by rw [List.getElem?_eq_getElem h1,hxe]
     have hbx:Y2 1048576 x:=by rw [← hxe];exact hx.2 _ (List.getElem_mem h1)
     simp [num,h1,he,hxe,u4,A5,l7]
     refine a3x (rs:=[l7 x]) (fun k' i'=>(k' == 9) && i' == i) rfl (d1j x i hbx) ?_ ?_ ?_
     · intro k' i' hk hl
       by_cases h:i'=i
       · subst h
         rw [if_pos rfl] at hl ⊢
         rcases a5d x k' with ⟨h,E,sz,xs,e⟩ | ⟨h,_⟩
         · rw [e];exact ⟨by subst h;simp,U3,fun cs h=>by cases h⟩
         · rw [h] at hl;cases hl
       · rw [if_neg h] at hl;cases hl
     · refine b8l x i fun k h=>?_
       subst h;simp
     simp [num,tx,h1,he,u4,A5,a15,a2z]
     refine LoopNext.mk (i+1) h1 (by omega) (Le.mkDN _ _ _ ?_ ?_ ?_)
     · simp [num]
       exact wrap_i64 (by omega) (by omega)
     · intro kp hkp
       rw [List.mem_singleton.1 hkp]
       simp [u4,A5]
       refine .prow _ _ _ _ _ fun j k hj hk=>?_
       by_cases hji:j=i
       · subst hji
         have e:a0i l j k=(a15 x j).getD k .undef:=by unfold a0i;rw [he]
         rw [if_pos ⟨rfl,hk⟩,if_pos (by omega),e]
         exact .refl _
       · rw [if_neg (fun h=>hji h.1)]
         by_cases hj2:j < i
         · rw [if_pos hj2,if_pos (by omega),b88]
           · exact .refl _
           · intro k h
             subst h;simp [hji]
         · rw [if_neg (by omega),if_neg (by omega)];exact .undef _
     · intro k j hk
       by_cases hji:j=i
       · subst hji
         have e:a12 l k j=a2z x k:=by unfold a12;rw [he]
         simp [hk,u4,A5]
         rw [e]
         rcases a5d x k with ⟨h,E,sz,xs,e⟩ | ⟨h,_⟩
         · subst h;simp [a2z]<;>exact .refl _
         · rw [h];exact .dead _
       · simp [hk,u4,A5,hji]
         by_cases hj2:j < i
         · rw [if_pos hj2,if_pos (by omega),c2c];exact .refl _
         · rw [if_neg (by omega),if_neg (by omega)];exact .dead _
   · have e:i=l.length:=by omega
     subst e
     simp [num,u4,A5]
     refine c5b [(DN 2 0,7,a00 l)] (fun k j=>a12 l k j) ?_ ?_ ?_ ?_ ?_ ?_
     · intro k j hk
       simp [a65,V0,hk]
     · simp [ioL,PV.ren,T9,a49]
     · intro e he
       rw [List.mem_singleton.1 he]
       refine ⟨by simp,by simp,?_⟩
       have:(a00 l).ren (ioL [(DN 2 0,7,a00 l)])=a00 l:=(b74 l (S:=TD (fun k i=>(k == 9))) fun k j h=>by subst h;simp).1 _ fun x hx=>by
        refine b9u fun e he=>?_
        rw [List.mem_singleton.1 he]
        rintro rfl
        simp at hx
       rw [this]
       simp [u4,A5,a00]
       funext j k
       by_cases hj:j < l.length
       · rw [if_pos hj]
       · rw [if_neg hj];unfold a0i;rw [List.getElem?_eq_none (by omega)]
     · simp
     · intro e he
       rw [List.mem_singleton.1 he];simp
     · intro k j hk hl _
       rcases a7e l k j with ⟨_,hj,E,sz,xs,e⟩ | e
       · simp [u4,A5,hk,hj]
         rw [e];rfl
       · rw [e] at hl;cases hl
def a0h (l:List LWire) (j k:Nat):PV:=match l[j]? with
 | some x=>(a1f x j).getD k .undef
 | none=>.undef
def a22 (l:List LWire):MObj:=.prow 96 7 l.length (a0h l)
def a11 (l:List LWire) (k j:Nat):MObj:=match l[j]? with
 | some x=>a1v x k
 | none=>.dead
theorem c88 (x:LWire) (j k:Nat):(∃ r,(a1f x j).getD k .undef=.val r)∨(a1f x j).getD k .undef=.undef∨(∃ k',(k'=10)∧(a1f x j).getD k .undef=.own (DN k' j)):=by
 unfold a1f
 by_cases h:k < 7
 · have:k=0∨k=1∨k=2∨k=3∨k=4∨k=5∨k=6:=by omega
   rcases this with rfl | rfl | rfl | rfl | rfl | rfl | rfl<;>simp
 · rw [List.getD_eq_getElem?_getD,List.getElem?_eq_none (by simp;omega)]
   exact .inr (.inl rfl)
theorem b5f (l:List LWire) (j k:Nat):(∃ r,a0h l j k=.val r)∨a0h l j k=.undef∨(∃ k',(k'=10)∧a0h l j k=.own (DN k' j)):=by
 unfold a0h
 cases l[j]? with
 | none=>exact .inr (.inl rfl)
 | some x=>exact c88 x j k
theorem b87 (l:List LWire) (j k:Nat) (d:Nat→Bool) (h:∀ k',(k'=10)→d (DN k' j)=false):(a0h l j k).kill d=a0h l j k:=by
 rcases b5f l j k with ⟨r,e⟩ | e | ⟨k',hk,e⟩<;>rw [e]<;>simp only [PV.kill]
 rw [h k' hk];rfl
theorem a7d (l:List LWire) (k j:Nat):((k=10)∧j < l.length∧∃ E sz xs,a11 l k j=.row E sz xs)∨a11 l k j=.dead:=by
 unfold a11
 by_cases h:j < l.length
 · rw [List.getElem?_eq_getElem h]
   rcases a5c l[j] k with ⟨h',e⟩ | ⟨h,_⟩
   · exact .inl ⟨h',h,e⟩
   · exact .inr h
 · rw [List.getElem?_eq_none (by omega)];exact .inr rfl
theorem c2b (l:List LWire) (k j:Nat) (d:Nat→Bool):(a11 l k j).kill d=a11 l k j:=by
 rcases a7d l k j with ⟨_,_,E,sz,xs,e⟩ | e<;>rw [e]<;>rfl
theorem b73 (l:List LWire) {S:Nat→Bool} (h:∀ k j,(k=10)→S (DN k j)=true):(a22 l).onT S:=by
 refine b5c fun j k=>?_
 rcases b5f l j k with ⟨r,e⟩ | e | ⟨k',hk,e⟩
 · exact .inl ⟨r,e⟩
 · exact .inr (.inl e)
 · exact .inr (.inr (.inr ⟨_,e,h k' j hk⟩))
def X4 (l:List LWire) (k i:Nat):MObj:=if k=4∧i=0 then a22 l else a11 l k i
theorem a9h (l:List LWire) (k i:Nat) {S:Nat→Bool} (hS:∀ k j,(k=10)→S (DN k j)=true) (h:(X4 l k i).live=true):((k == 10) || (k == 4 && i == 0))=true∧(X4 l k i).onT S∧∀ cs,X4 l k i≠.box cs:=by
 unfold X4 at h ⊢
 by_cases h0:k=4∧i=0
 · rw [if_pos h0]
   exact ⟨by simp [h0],b73 l hS,fun cs h=>by cases h⟩
 · rw [if_neg h0] at h ⊢
   rcases a7d l k i with ⟨h',_,E,sz,xs,e⟩ | e
   · rw [e]
     refine ⟨?_,U3,fun cs h=>by cases h⟩
     subst h';simp
   · rw [e] at h;cases h
theorem b2d (l:List LWire) (k i:Nat) {S:Nat→Bool} (hS:∀ k j,(k=10)→S (DN k j)=true):(X4 l k i).onT S:=by
 cases hl:(X4 l k i).live with
 | true=>exact (a9h l k i hS hl).2.1
 | false=>cases hm:X4 l k i<;>rw [hm] at hl<;>first | exact Z1 | cases hl
theorem a79 (l:List LWire) (k i:Nat) (d:Nat→Bool) (h:∀ k j,(k=10)→d (DN k j)=false):(X4 l k i).kill d=X4 l k i:=
 (b2d l k i (S:=fun x=>!d x) fun k j hk=>by simp [h k j hk]).2 d fun x hx=>by simpa using hx
theorem c8r (l:List LWire) (hx:bdS 1048576 (a0c 1048576) l):S2 Tryz.prog 53 [.val (.list 7 (l.map I0))] (fun _=>.dead) (fun _=>false) (.own (DN 4 0)) (dyn (X4 l)):=by
 refine Z3 mixed okp53 (fun i h=>by cases h) (fun i h=>by cases h) ?_
 unfold irp53
 rw [b6]
 have hl:l.length≤1048576:=hx.1
 simp [num,G6]
 refine ⟨by omega,by omega,?_⟩
 refine j8 (X:=Nat) (fun i=>⟨u0 [(0,.val (.list 7 (l.map I0))),(3,.own 7),(4,.val (num i))],b1f [(7,.prow 96 7 l.length fun j k=>if j < i then a0h l j k else .undef)] (fun k j=>if j < i then a11 l k j else .dead)⟩) (fun i=>i≤l.length) (fun i=>l.length - i) 0 (Le.mkDN _ _ _ ?_ ?_ ?_) (Nat.zero_le _) ?_
 · simp [upd,num,PV.kill]
 · intro kp hkp
   rw [List.mem_singleton.1 hkp]
   simp [upd]
   refine .rowp _ _ _ _ _ (by simp) fun j k hj hk=>?_
   exact .undef _
 · intro k j hk
   simp
   exact .dead _
 · intro i hi
   simp [num,u4,A5]
   refine f7 (fun h1=>?_) (fun h1=>?_)
   · obtain ⟨x,hxe⟩:∃ x,l[i]=x:=⟨_,rfl⟩
     have he:l[i]?=some x:=by rw [List.getElem?_eq_getElem h1,hxe]
     have hbx:a0c 1048576 x:=by rw [← hxe];exact hx.2 _ (List.getElem_mem h1)
     simp [num,h1,he,hxe,u4,A5,I0]
     refine a3x (rs:=[I0 x]) (fun k' i'=>(k' == 10) && i' == i) rfl (d1i x i hbx) ?_ ?_ ?_
     · intro k' i' hk hl
       by_cases h:i'=i
       · subst h
         rw [if_pos rfl] at hl ⊢
         rcases a5c x k' with ⟨h,E,sz,xs,e⟩ | ⟨h,_⟩
         · rw [e];exact ⟨by subst h;simp,U3,fun cs h=>by cases h⟩
         · rw [h] at hl;cases hl
       · rw [if_neg h] at hl;cases hl
     · refine b8k x i fun k h=>?_
       subst h;simp
     simp [num,tx,h1,he,u4,A5,a1f,a1v]
     refine LoopNext.mk (i+1) h1 (by omega) (Le.mkDN _ _ _ ?_ ?_ ?_)
     · simp [num]
       exact wrap_i64 (by omega) (by omega)
     · intro kp hkp
       rw [List.mem_singleton.1 hkp]
       simp [u4,A5]
       refine .prow _ _ _ _ _ fun j k hj hk=>?_
       by_cases hji:j=i
       · subst hji
         have e:a0h l j k=(a1f x j).getD k .undef:=by unfold a0h;rw [he]
         rw [if_pos ⟨rfl,hk⟩,if_pos (by omega),e]
         exact .refl _
       · rw [if_neg (fun h=>hji h.1)]
         by_cases hj2:j < i
         · rw [if_pos hj2,if_pos (by omega),b87]
           · exact .refl _
           · intro k h
             subst h;simp [hji]
         · rw [if_neg (by omega),if_neg (by omega)];exact .undef _
     · intro k j hk
       by_cases hji:j=i
       · subst hji
         have e:a11 l k j=a1v x k:=by unfold a11;rw [he]
         simp [hk,u4,A5]
         rw [e]
         rcases a5c x k with ⟨h,E,sz,xs,e⟩ | ⟨h,_⟩
         · subst h;simp [a1v]<;>exact .refl _
         · rw [h];exact .dead _
       · simp [hk,u4,A5,hji]
         by_cases hj2:j < i
         · rw [if_pos hj2,if_pos (by omega),c2b];exact .refl _
         · rw [if_neg (by omega),if_neg (by omega)];exact .dead _
   · have e:i=l.length:=by omega
     subst e
     simp [num,u4,A5]
     refine c5b [(DN 4 0,7,a22 l)] (fun k j=>a11 l k j) ?_ ?_ ?_ ?_ ?_ ?_
     · intro k j hk
       simp [a65,X4,hk]
     · simp [ioL,PV.ren,T9,a49]
     · intro e he
       rw [List.mem_singleton.1 he]
       refine ⟨by simp,by simp,?_⟩
       have:(a22 l).ren (ioL [(DN 4 0,7,a22 l)])=a22 l:=(b73 l (S:=TD (fun k i=>(k == 10))) fun k j h=>by subst h;simp).1 _ fun x hx=>by
        refine b9u fun e he=>?_
        rw [List.mem_singleton.1 he]
        rintro rfl
        simp at hx
       rw [this]
       simp [u4,A5,a22]
       funext j k
       by_cases hj:j < l.length
       · rw [if_pos hj]
       · rw [if_neg hj];unfold a0h;rw [List.getElem?_eq_none (by omega)]
     · simp
     · intro e he
       rw [List.mem_singleton.1 he];simp
     · intro k j hk hl _
       rcases a7d l k j with ⟨_,hj,E,sz,xs,e⟩ | e
       · simp [u4,A5,hk,hj]
         rw [e];rfl
       · rw [e] at hl;cases hl
end Go.Proofs
end
section
namespace Go.Proofs
open Go.PW Go.KP
attribute [local simp] RV.cells RV.one PV.cells PV.solid PV.one G6 i7 M3 L4 RV.ofCells elems PV.killL
variable [GF]
attribute [local simp] a6x b1y b76 b77 b75 b5i a39 b2s a8g b63 b00 b2z a83
def a3s (p:LPolicy):List PV:=[.val (tx p.reportTo),.own (DN 1 0),.own (DN 2 0)]
def P3 (p:LPolicy) (k i:Nat):MObj:=if k=1∧i=0 then .row 9 1 (p.uris.map tx) else V0 p.rules k i
theorem a5w (p:LPolicy) (k i:Nat) {S:Nat→Bool} (hS:∀ k j,(k=9)→S (DN k j)=true) (h:(P3 p k i).live=true):(k == 1 && i == 0 || k == 9 || k == 2 && i == 0)=true∧(P3 p k i).onT S∧∀ cs,P3 p k i≠.box cs:=by
 unfold P3 at h ⊢
 by_cases h0:k=1∧i=0
 · rw [if_pos h0]
   exact ⟨by simp [h0],U3,fun cs h=>by cases h⟩
 · rw [if_neg h0] at h ⊢
   obtain ⟨h1,h2,h3⟩:=a6n p.rules k i hS h
   refine ⟨?_,h2,h3⟩
   simp only [Bool.or_eq_true] at h1 ⊢
   rcases h1 with h1 | h1
   · exact .inl (.inr h1)
   · exact .inr h1
theorem a5v (p:LPolicy) (k i:Nat) {S:Nat→Bool} (hS:∀ k j,(k=9)→S (DN k j)=true):(P3 p k i).onT S:=by
 cases hl:(P3 p k i).live with
 | true=>exact (a5w p k i hS hl).2.1
 | false=>cases hm:P3 p k i<;>rw [hm] at hl<;>first | exact Z1 | cases hl
theorem a4c (p:LPolicy) (k i:Nat) (d:Nat→Bool) (h:∀ k j,(k=9)→d (DN k j)=false):(P3 p k i).kill d=P3 p k i:=
 (a5v p k i (S:=fun x=>!d x) fun k j hk=>by simp [h k j hk]).2 d fun x hx=>by simpa using hx
theorem c5f (p:LPolicy) (hx:a0p 1048576 p):S2 Tryz.prog 22 [.val (x5 p)] (fun _=>.dead) (fun _=>false) (.agg (a3s p)) (dyn (P3 p)):=by
 refine Z3 mixed ok22 (fun i h=>by cases h) (fun i h=>by cases h) ?_
 unfold ir22
 rw [b6]
 obtain ⟨b0,b1,b2⟩:=hx
 simp [x5,tx,num]
 refine a3x (rs:=[.list 1 (p.uris.map tx)]) (fun k i=>k == 1 && i == 0) rfl (a8s p.uris 1 0 (by omega) b1) ?_ ?_ ?_
 · intro k i hk hl
   by_cases h:k=1∧i=0
   · rw [if_pos h]
     exact ⟨by simp [h],U3,fun cs h=>by cases h⟩
   · rw [if_neg h] at hl;cases hl
 · exact P1 (by simp)
 simp [x5,tx,num]
 refine a3x (rs:=[.list 2 (p.rules.map l7)]) (fun k i=>k == 9 || k == 2 && i == 0) rfl (c8s p.rules b2) (fun k i hk hl=>a6n p.rules k i (fun k j h=>by subst h;simp) hl) (P1 (by simp)) ?_
 simp [x5,tx,num,V0,a00]
 refine b0n _ ?_ ?_ ?_ ?_
 · simp [a3s,tx,num,T9,a49]
 · intro k i hk hl
   by_cases h1:k=1∧i=0
   · obtain ⟨rfl,rfl⟩:=h1;simp [P3]
   · have e:P3 p k i=V0 p.rules k i:=by unfold P3;rw [if_neg h1]
     rw [e] at hl ⊢
     have h2:=(a6n p.rules k i (S:=fun _=>true) (fun _ _ _=>rfl) hl).1
     simp at h2
     simp [hk,h2]
     try simp [V0,a00]
 · exact a2o fun q hq=>by
    simp only [a3s,List.mem_cons,List.not_mem_nil,or_false] at hq
    rcases hq with rfl | rfl | rfl
    · exact T0
    · exact P1 (by simp)
    · exact P1 (by simp)
 · intro k i hk
   exact a5v p k i fun k j h=>by simp
def a4b (p:LPipe):List PV:=[.own (DN 0 0),.val (tx p.policy.reportTo),.own (DN 1 0),.own (DN 2 0),.val (num p.now),.val (num p.next),.own (DN 3 0),.own (DN 4 0)]
def R3 (p:LPipe) (k i:Nat):MObj:=
 if k=3∧i=0 then .row 157 3 (p.log.map G5) else if k=1∧i=0∨k=2∧i=0∨k=9 then P3 p.policy k i else if k=4∧i=0∨k=10 then X4 p.wires k i else P5 p.channels k i
def a0w (k i:Nat):Bool:=decide (k < 5) && i == 0 || decide (5≤k) && decide (k < 11)
theorem c2j (p:LPipe) (hx:a07 1048576 p):S2 Tryz.prog 11 [.val (L8 p)] (fun _=>.dead) (fun _=>false) (.agg (a4b p)) (dyn (R3 p)):=by
 refine Z3 mixed ok11 (fun i h=>by cases h) (fun i h=>by cases h) ?_
 unfold ir11
 rw [b6]
 obtain ⟨b0,b1,b2,b3⟩:=hx
 simp [L8,tx,num]
 refine a3x (rs:=[.list 6 (p.channels.map j6)]) (fun k i=>(k == 5 || k == 6 || k == 7 || k == 8) || k == 0 && i == 0) rfl (b94 p.channels b0) (fun k i hk hl=>a2a p.channels k i (fun k j h=>by rcases h with rfl | rfl | rfl | rfl<;>simp) hl) (P1 (by simp)) ?_
 simp [tx,num,P5,V2]
 refine a3x (rs:=[x5 p.policy]) (fun k i=>k == 1 && i == 0 || k == 9 || k == 2 && i == 0) rfl (c5f p.policy b1) (fun k i hk hl=>a5w p.policy k i (fun k j h=>by subst h;simp) hl) ?_ ?_
 · exact a2o fun q hq=>by
    simp only [a3s,List.mem_cons,List.not_mem_nil,or_false] at hq
    rcases hq with rfl | rfl | rfl
    · exact T0
    · exact P1 (by simp)
    · exact P1 (by simp)
 simp [tx,num,P3,V0,a00,a3s]
 refine a3x (rs:=[.list 3 (p.log.map G5)]) (fun k i=>k == 3 && i == 0) rfl (c5g p.log 3 0 (by omega) b2) ?_ ?_ ?_
 · intro k i hk hl
   by_cases h:k=3∧i=0
   · rw [if_pos h]
     exact ⟨by simp [h],U3,fun cs h=>by cases h⟩
   · rw [if_neg h] at hl;cases hl
 · exact P1 (by simp)
 simp [tx,num]
 refine a3x (rs:=[.list 7 (p.wires.map I0)]) (fun k i=>(k == 10) || k == 4 && i == 0) rfl (c8r p.wires b3) (fun k i hk hl=>a9h p.wires k i (fun k j h=>by subst h;simp) hl) (P1 (by simp)) ?_
 simp [tx,num,X4,a22,P3,V0,a00,P5,V2]
 refine b0n _ ?_ ?_ ?_ ?_
 · simp [a4b,tx,num,T9,a49]
 · intro k i hk hl
   have c1:∀ (k j:Nat),(k=5∨k=6∨k=7∨k=8)→nK (fun k i=>(k == 10) || k == 4 && i == 0) (DN k j)=false:=fun k j h=>by rcases h with rfl | rfl | rfl | rfl<;>simp
   have c2:∀ (k j:Nat),(k=5∨k=6∨k=7∨k=8)→nK (fun k i=>k == 3 && i == 0) (DN k j)=false:=fun k j h=>by rcases h with rfl | rfl | rfl | rfl<;>simp
   have c3:∀ (k j:Nat),(k=5∨k=6∨k=7∨k=8)→nK (fun k i=>k == 1 && i == 0 || k == 9 || k == 2 && i == 0) (DN k j)=false:=fun k j h=>by rcases h with rfl | rfl | rfl | rfl<;>simp
   have r1:∀ (k j:Nat),k=9→nK (fun k i=>(k == 10) || k == 4 && i == 0) (DN k j)=false:=fun k j h=>by subst h;simp
   have r2:∀ (k j:Nat),k=9→nK (fun k i=>k == 3 && i == 0) (DN k j)=false:=fun k j h=>by subst h;simp
   by_cases h1:k=3∧i=0
   · obtain ⟨rfl,rfl⟩:=h1;simp [R3]
   by_cases h2:k=1∧i=0∨k=2∧i=0∨k=9
   · have e:R3 p k i=P3 p.policy k i:=by unfold R3;rw [if_neg h1,if_pos h2]
     rw [e] at hl ⊢
     have h3:¬ (k=4∧i=0)∧¬ k=10∧¬ (k=3∧i=0):=by omega
     have h4:(k=1∧i=0∨k=9)∨k=2∧i=0:=by omega
     simp [hk,h3,h4]
     rw [a4c _ _ _ _ r2,a4c _ _ _ _ r1]
   by_cases h3:k=4∧i=0∨k=10
   · have e:R3 p k i=X4 p.wires k i:=by unfold R3;rw [if_neg h1,if_neg h2,if_pos h3]
     rw [e] at hl ⊢
     have h4:k=10∨k=4∧i=0:=by omega
     simp [hk,h4]
   · have e:R3 p k i=P5 p.channels k i:=by unfold R3;rw [if_neg h1,if_neg h2,if_neg h3]
     rw [e] at hl ⊢
     have h5:=(a2a p.channels k i (S:=fun _=>true) (fun _ _ _=>rfl) hl).1
     simp at h5
     have h4:¬ (k=10∨k=4∧i=0):=by omega
     have h6:¬ ((k=1∧i=0∨k=9)∨k=2∧i=0):=by omega
     simp only [y8,G1,z1,F9,z6,s8,y9,G0,l9,B1,H1,H2,j7,p8,p9,l1,z7,q9,l3,F8,y7,q8,q7,D9,E1,a05,a06,Option.getD_some,Option.getD_none,C6,u6,o8,D6,o7,o0,D8,o2,D7,D5,D4,H6,x3,o5,D2,x1,o4,D1,C4,D3,x2,C9,n9,w9,D0,H8,H7,C5,C7,o3,C8,x4,o6,B4,n0,C3,C2,C1,H3,w7,n6,B9,w5,n5,B8,B2,C0,w6,B6,m8,v8,B7,H5,H4,B3,v7,n8,B5,w8,n7,J6,J5,K9,J7,K3,J9,J8,K8,K2,K4,K5,K6,K7,A1,A0,z8,M5,M6,A4,G2,u7,E5,x7,L3,t6,Q6,M9,M0,O1,O3,O2,Q7,Q8,I8,J0,I9,J1,J2,N8,x9,N7,E6,E7,E8,y0,a09,F5,y6,Q4,Q5,H9,M7,M8,Option.map_some,Option.map_none,E9,y4,x6,o9,E3,E4,I2,I1,O8,O7,J4,F6,F7,J3,O4,O5,I4,p6,I5,p5,N2,F4,F3,l2,O0,O6,I7,N4,N6,N5,x8,A8,B0,A9,k7,N9,R0,Q9,N0,I6,U8,N1,p7,F1,F2,y5,F0,l0,u9,k9,v6,k8,L2,O9,P0,A2,A3,G4,G3,E2,A4,b63,b00,b5i hk]
     simp [hk,h1,h4,h6,h5]
     rw [a3j _ _ _ _ c3,a3j _ _ _ _ c2,a3j _ _ _ _ c1]
 · exact a2o fun q hq=>by
    simp only [a4b,List.mem_cons,List.not_mem_nil,or_false] at hq
    rcases hq with rfl | rfl | rfl | rfl | rfl | rfl | rfl | rfl
    · exact P1 (by simp)
    · exact T0
    · exact P1 (by simp)
    · exact P1 (by simp)
    · exact T0
    · exact T0
    · exact P1 (by simp)
    · exact P1 (by simp)
 · intro k i hk
   unfold R3
   split
   · exact U3
   split
   · exact a5v p.policy k i fun k j h=>by simp
   split
   · exact b2d p.wires k i fun k j h=>by simp
   · exact a67 p.channels k i fun k j h=>by simp
end Go.Proofs
end
section
namespace Go.Proofs
open Go.PW Go.KP
attribute [local simp] RV.cells RV.one PV.cells PV.solid PV.one G6 i7 M3 L4 RV.ofCells elems PV.killL
variable [GF]
attribute [local simp] a6x b1y b76 b77 b75 b5i a39 b2s a8g b63 b00 b2z a83
theorem c2m (l:List LRule) (k:Nat) (hx:bdS 1048576 (Y2 1048576) l) (hk:k+G8 Z6 l < 8388608):S2 Tryz.prog 78 [.own (DN 2 0),.val (num k)] (dyn (V0 l)) (fun _=>false) (.val (num ((k+G8 Z6 l:Nat):Int))) (fun _=>.dead):=by
 refine Z3 mixed okp78 (fun i h=>a8q h) (fun i h=>by cases h) ?_
 unfold irp78
 rw [b6]
 have hl:l.length≤1048576:=hx.1
 simp [num]
 refine j8 (X:=Nat) (fun i=>⟨u0 [(0,.own (DN 2 0)),(1,.val (num ((k+G8 Z6 (l.take i):Nat):Int))),(5,.val (num i))],b1f [] (fun k' j=>if k'=2∧j=0 then .prow 181 2 l.length (fun j k=>if i≤j then a0i l j k else .undef) else if i≤j then a12 l k' j else .dead)⟩) (fun i=>i≤l.length) (fun i=>l.length - i) 0 (Le.mkDN _ _ _ ?_ ?_ ?_) (Nat.zero_le _) ?_
 · simp [upd,num,PV.kill,G8]
 · intro kp hkp;cases hkp
 · intro k' j hk'
   simp [hk',V0,a00]
   exact .refl _
 · intro i hi
   unfold irp78_l6
   by_cases h1:i < l.length
   · obtain ⟨x,hxe⟩:∃ x,l[i]=x:=⟨_,rfl⟩
     have he:l[i]?=some x:=by rw [List.getElem?_eq_getElem h1,hxe]
     have hbx:Y2 1048576 x:=by rw [← hxe];exact hx.2 _ (List.getElem_mem h1)
     have ho:∀ k,a0i l i k=(a15 x i).getD k .undef:=fun k=>by unfold a0i;rw [he]
     have hf:∀ k,a12 l k i=a2z x k:=fun k=>by unfold a12;rw [he]
     have hst:G8 Z6 (l.take (i+1))=G8 Z6 (l.take i)+Z6 x:=by rw [a1k _ h1,hxe]
     have hle:=a4d (f:=Z6) l (i+1)
     obtain ⟨m0,hm0⟩:∃ m,k+G8 Z6 (l.take i)=m:=⟨_,rfl⟩
     have q1:x.words.length≤1048576:=hbx.2.1
     obtain ⟨m1,hm1⟩:∃ m,m0+1=m:=⟨_,rfl⟩
     obtain ⟨m2,hm2⟩:∃ m,m1+1*x.words.length=m:=⟨_,rfl⟩
     have hcx:Z6 x=1+x.words.length:=rfl
     have hlast:k+G8 Z6 (l.take (i+1))=m2:=by omega
     have s0:IntKind.i64.wrap ((m0:Int)+1)=(m1:Int):=by rw [wrap_i64 (by omega) (by omega)];omega
     have hk0:=a0u m0 (by omega)
     have hk1:=a4g x.words m1 (by omega) q1
     rw [hm2] at hk1
     rw [hm0]
     simp [num,tx,h1,ho,hf,u4,A5,a15,a2z,s0]
     refine b7 rfl rfl (.inl rfl) hk0 ?_
     simp [num,tx,h1,ho,hf,u4,A5,a15,a2z,s0]
     refine b8v (by simp [PV.plain1]) rfl rfl rfl hk1 rfl ?_
     simp [num,tx,h1,ho,hf,u4,A5,a15,a2z,s0]
     refine LoopNext.mk (i+1) h1 (by omega) (Le.mkDN _ _ _ ?_ ?_ ?_)
     · simp only [hlast]
       simp [num,s0]
       exact wrap_i64 (by omega) (by omega)
     · intro kp hkp;cases hkp
     · intro k' j hk'
       by_cases h0:k'=2∧j=0
       · obtain ⟨rfl,rfl⟩:=h0
         simp [u4,A5]
         refine .prow _ _ _ _ _ fun j k hj hk=>?_
         by_cases hji:j=i
         · rw [if_neg (show ¬ i+1≤j by omega)];exact .undef _
         · simp [hji]
           by_cases hj2:i≤j
           · rw [if_pos hj2,if_pos (by omega)];exact .refl _
           · rw [if_neg hj2,if_neg (by omega)];exact .undef _
       · rw [if_neg h0]
         by_cases hji:j=i
         · rw [if_neg (show ¬ i+1≤j by omega)];exact .dead _
         · simp [hk',u4,A5,hji,h0]
           by_cases hj2:i≤j
           · rw [if_pos hj2,if_pos (by omega)];exact .refl _
           · rw [if_neg hj2,if_neg (by omega)];exact .refl _
   · have e:i=l.length:=by omega
     subst e
     simp [num,u4,A5]
     refine b59 ?_
     simp [T9,a49]
theorem c9x {M:Nat→MObj} (l:List LRule) (h0:M (DN 2 0)=a00 l) (h:∀ k j,k < 16→(a12 l k j).live=true→M (DN k j)=a12 l k j):Res M (.own (DN 2 0)) (.list 2 (l.map l7)):=by
 refine .prow _ _ _ _ (a0i l) _ h0 (by simp) (fun x hx=>?_) fun j k hj hk=>?_
 · obtain ⟨y,_,rfl⟩:=List.mem_map.1 hx
   rfl
 have he:l[j]?=some l[j]:=List.getElem?_eq_getElem hj
 have e1:a0i l j k=(a15 l[j] j).getD k .undef:=by unfold a0i;rw [he]
 have e2:(l.map l7).getD j .nilptr=l7 l[j]:=by simp [List.getD_eq_getElem?_getD,he]
 rw [e1,e2]
 generalize l[j]=x at he ⊢
 have:k=0∨k=1:=by omega
 rcases this with rfl | rfl
 · exact .val _
 · exact .row _ 9 _ _ (by rw [h 9 j (by omega) (by unfold a12;rw [he];rfl)];unfold a12;rw [he];rfl)
theorem c2l (l:List LWire) (k:Nat) (hx:bdS 1048576 (a0c 1048576) l) (hk:k+G8 a0z l < 8388608):S2 Tryz.prog 65 [.own (DN 4 0),.val (num k)] (dyn (X4 l)) (fun _=>false) (.val (num ((k+G8 a0z l:Nat):Int))) (fun _=>.dead):=by
 refine Z3 mixed okp65 (fun i h=>a8q h) (fun i h=>by cases h) ?_
 unfold irp65
 rw [b6]
 have hl:l.length≤1048576:=hx.1
 simp [num]
 refine j8 (X:=Nat) (fun i=>⟨u0 [(0,.own (DN 4 0)),(1,.val (num ((k+G8 a0z (l.take i):Nat):Int))),(5,.val (num i))],b1f [] (fun k' j=>if k'=4∧j=0 then .prow 96 7 l.length (fun j k=>if i≤j then a0h l j k else .undef) else if i≤j then a11 l k' j else .dead)⟩) (fun i=>i≤l.length) (fun i=>l.length - i) 0 (Le.mkDN _ _ _ ?_ ?_ ?_) (Nat.zero_le _) ?_
 · simp [upd,num,PV.kill,G8]
 · intro kp hkp;cases hkp
 · intro k' j hk'
   simp [hk',X4,a22]
   exact .refl _
 · intro i hi
   unfold irp65_l6
   by_cases h1:i < l.length
   · obtain ⟨x,hxe⟩:∃ x,l[i]=x:=⟨_,rfl⟩
     have he:l[i]?=some x:=by rw [List.getElem?_eq_getElem h1,hxe]
     have hbx:a0c 1048576 x:=by rw [← hxe];exact hx.2 _ (List.getElem_mem h1)
     have ho:∀ k,a0h l i k=(a1f x i).getD k .undef:=fun k=>by unfold a0h;rw [he]
     have hf:∀ k,a11 l k i=a1v x k:=fun k=>by unfold a11;rw [he]
     have hst:G8 a0z (l.take (i+1))=G8 a0z (l.take i)+a0z x:=by rw [a1k _ h1,hxe]
     have hle:=a4d (f:=a0z) l (i+1)
     obtain ⟨m0,hm0⟩:∃ m,k+G8 a0z (l.take i)=m:=⟨_,rfl⟩
     have q4:x.ids.length≤1048576:=hbx.2.2.1
     obtain ⟨m1,hm1⟩:∃ m,m0+1=m:=⟨_,rfl⟩
     obtain ⟨m2,hm2⟩:∃ m,m1+1=m:=⟨_,rfl⟩
     obtain ⟨m3,hm3⟩:∃ m,m2+1=m:=⟨_,rfl⟩
     obtain ⟨m4,hm4⟩:∃ m,m3+1=m:=⟨_,rfl⟩
     obtain ⟨m5,hm5⟩:∃ m,m4+1*x.ids.length=m:=⟨_,rfl⟩
     obtain ⟨m6,hm6⟩:∃ m,m5+1=m:=⟨_,rfl⟩
     obtain ⟨m7,hm7⟩:∃ m,m6+1=m:=⟨_,rfl⟩
     have hcx:a0z x=6+x.ids.length:=rfl
     have hlast:k+G8 a0z (l.take (i+1))=m7:=by omega
     have s0:IntKind.i64.wrap ((m0:Int)+1)=(m1:Int):=by rw [wrap_i64 (by omega) (by omega)];omega
     have s1:IntKind.i64.wrap ((m1:Int)+1)=(m2:Int):=by rw [wrap_i64 (by omega) (by omega)];omega
     have s2:IntKind.i64.wrap ((m2:Int)+1)=(m3:Int):=by rw [wrap_i64 (by omega) (by omega)];omega
     have hk2:=a0u m2 (by omega)
     have s3:IntKind.i64.wrap ((m3:Int)+1)=(m4:Int):=by rw [wrap_i64 (by omega) (by omega)];omega
     have hk3:=a0u m3 (by omega)
     have hk4:=c40 x.ids m4 (by omega) q4
     rw [hm5] at hk4
     have s5:IntKind.i64.wrap ((m5:Int)+1)=(m6:Int):=by rw [wrap_i64 (by omega) (by omega)];omega
     have hk5:=a0u m5 (by omega)
     have s6:IntKind.i64.wrap ((m6:Int)+1)=(m7:Int):=by rw [wrap_i64 (by omega) (by omega)];omega
     rw [hm0]
     simp [num,tx,h1,ho,hf,u4,A5,a1f,a1v,s0,s1,s2,s3,s5,s6]
     refine b7 rfl rfl (.inl rfl) hk2 ?_
     simp [num,tx,h1,ho,hf,u4,A5,a1f,a1v,s0,s1,s2,s3,s5,s6]
     refine b7 rfl rfl (.inl rfl) hk3 ?_
     simp [num,tx,h1,ho,hf,u4,A5,a1f,a1v,s0,s1,s2,s3,s5,s6]
     refine b8v (by simp [PV.plain1]) rfl rfl rfl hk4 rfl ?_
     simp [num,tx,h1,ho,hf,u4,A5,a1f,a1v,s0,s1,s2,s3,s5,s6]
     refine b7 rfl rfl (.inl rfl) hk5 ?_
     simp [num,tx,h1,ho,hf,u4,A5,a1f,a1v,s0,s1,s2,s3,s5,s6]
     refine LoopNext.mk (i+1) h1 (by omega) (Le.mkDN _ _ _ ?_ ?_ ?_)
     · simp only [hlast]
       simp [num,s0,s1,s2,s3,s5,s6]
       exact wrap_i64 (by omega) (by omega)
     · intro kp hkp;cases hkp
     · intro k' j hk'
       by_cases h0:k'=4∧j=0
       · obtain ⟨rfl,rfl⟩:=h0
         simp [u4,A5]
         refine .prow _ _ _ _ _ fun j k hj hk=>?_
         by_cases hji:j=i
         · rw [if_neg (show ¬ i+1≤j by omega)];exact .undef _
         · simp [hji]
           by_cases hj2:i≤j
           · rw [if_pos hj2,if_pos (by omega)];exact .refl _
           · rw [if_neg hj2,if_neg (by omega)];exact .undef _
       · rw [if_neg h0]
         by_cases hji:j=i
         · rw [if_neg (show ¬ i+1≤j by omega)];exact .dead _
         · simp [hk',u4,A5,hji,h0]
           by_cases hj2:i≤j
           · rw [if_pos hj2,if_pos (by omega)];exact .refl _
           · rw [if_neg hj2,if_neg (by omega)];exact .refl _
   · have e:i=l.length:=by omega
     subst e
     simp [num,u4,A5]
     refine b59 ?_
     simp [T9,a49]
theorem c9w {M:Nat→MObj} (l:List LWire) (h0:M (DN 4 0)=a22 l) (h:∀ k j,k < 16→(a11 l k j).live=true→M (DN k j)=a11 l k j):Res M (.own (DN 4 0)) (.list 7 (l.map I0)):=by
 refine .prow _ _ _ _ (a0h l) _ h0 (by simp) (fun x hx=>?_) fun j k hj hk=>?_
 · obtain ⟨y,_,rfl⟩:=List.mem_map.1 hx
   rfl
 have he:l[j]?=some l[j]:=List.getElem?_eq_getElem hj
 have e1:a0h l j k=(a1f l[j] j).getD k .undef:=by unfold a0h;rw [he]
 have e2:(l.map I0).getD j .nilptr=I0 l[j]:=by simp [List.getD_eq_getElem?_getD,he]
 rw [e1,e2]
 generalize l[j]=x at he ⊢
 have:k=0∨k=1∨k=2∨k=3∨k=4∨k=5∨k=6:=by omega
 rcases this with rfl | rfl | rfl | rfl | rfl | rfl | rfl
 · exact .val _
 · exact .val _
 · exact .val _
 · exact .val _
 · exact .row _ 3 _ _ (by rw [h 10 j (by omega) (by unfold a11;rw [he];rfl)];unfold a11;rw [he];rfl)
 · exact .val _
 · exact .val _
theorem b6h (l:List LChannel) (k:Nat) (hx:bdS 1048576 (R4 1048576) l) (hk:k+G8 T5 l < 8388608):S2 Tryz.prog 63 [.own (DN 0 0),.val (num k)] (dyn (P5 l)) (fun _=>false) (.val (num ((k+G8 T5 l:Nat):Int))) (fun _=>.dead):=by
 refine Z3 mixed okp63 (fun i h=>a8q h) (fun i h=>by cases h) ?_
 unfold irp63
 rw [b6]
 have hl:l.length≤1048576:=hx.1
 simp [num]
 refine j8 (X:=Nat) (fun i=>⟨u0 [(0,.own (DN 0 0)),(1,.val (num ((k+G8 T5 (l.take i):Nat):Int))),(5,.val (num i))],b1f [] (fun k' j=>if k'=0∧j=0 then .prow 154 6 l.length (fun j k=>if i≤j then T1 l j k else .undef) else if i≤j then R1 l k' j else .dead)⟩) (fun i=>i≤l.length) (fun i=>l.length - i) 0 (Le.mkDN _ _ _ ?_ ?_ ?_) (Nat.zero_le _) ?_
 · simp [upd,num,PV.kill,G8]
 · intro kp hkp;cases hkp
 · intro k' j hk'
   simp [hk',P5,V2]
   exact .refl _
 · intro i hi
   unfold irp63_l6
   by_cases h1:i < l.length
   · obtain ⟨x,hxe⟩:∃ x,l[i]=x:=⟨_,rfl⟩
     have he:l[i]?=some x:=by rw [List.getElem?_eq_getElem h1,hxe]
     have hbx:R4 1048576 x:=by rw [← hxe];exact hx.2 _ (List.getElem_mem h1)
     have ho:∀ k,T1 l i k=(S9 x i).getD k .undef:=fun k=>by unfold T1;rw [he]
     have hf:∀ k,R1 l k i=U0 x k:=fun k=>by unfold R1;rw [he]
     have hst:G8 T5 (l.take (i+1))=G8 T5 (l.take i)+T5 x:=by rw [a1k _ h1,hxe]
     have hle:=a4d (f:=T5) l (i+1)
     obtain ⟨m0,hm0⟩:∃ m,k+G8 T5 (l.take i)=m:=⟨_,rfl⟩
     have q2:x.group.targets.length≤1048576:=hbx.1.2.1
     have q3:x.peers.length≤1048576:=hbx.2.1.1
     have q4:x.queue.items.length≤1048576:=hbx.2.2.1.1
     have q5:x.queue.recent.length≤1048576:=hbx.2.2.2.1
     obtain ⟨m1,hm1⟩:∃ m,m0+1=m:=⟨_,rfl⟩
     obtain ⟨m2,hm2⟩:∃ m,m1+1=m:=⟨_,rfl⟩
     obtain ⟨m3,hm3⟩:∃ m,m2+3*x.group.targets.length=m:=⟨_,rfl⟩
     obtain ⟨m4,hm4⟩:∃ m,m3+6*x.peers.length=m:=⟨_,rfl⟩
     obtain ⟨m5,hm5⟩:∃ m,m4+4*x.queue.items.length=m:=⟨_,rfl⟩
     obtain ⟨m6,hm6⟩:∃ m,m5+1*x.queue.recent.length=m:=⟨_,rfl⟩
     have hcx:T5 x=2+3*x.group.targets.length+6*x.peers.length+4*x.queue.items.length+x.queue.recent.length:=rfl
     have hlast:k+G8 T5 (l.take (i+1))=m6:=by omega
     have s0:IntKind.i64.wrap ((m0:Int)+1)=(m1:Int):=by rw [wrap_i64 (by omega) (by omega)];omega
     have hk0:=a0u m0 (by omega)
     have s1:IntKind.i64.wrap ((m1:Int)+1)=(m2:Int):=by rw [wrap_i64 (by omega) (by omega)];omega
     have hk2:=b7o x.group.targets m2 (by omega) q2
     rw [hm3] at hk2
     have hk3:=c12 x.peers m3 (by omega) q3
     rw [hm4] at hk3
     have hk4:=b7p x.queue.items m4 (by omega) q4
     rw [hm5] at hk4
     have hk5:=a4g x.queue.recent m5 (by omega) q5
     rw [hm6] at hk5
     rw [hm0]
     simp [num,tx,h1,ho,hf,u4,A5,S9,U0,s0,s1]
     refine b7 rfl rfl (.inl rfl) hk0 ?_
     simp [num,tx,h1,ho,hf,u4,A5,S9,U0,s0,s1]
     refine b8v (by simp [PV.plain1]) rfl rfl rfl hk2 rfl ?_
     simp [num,tx,h1,ho,hf,u4,A5,S9,U0,s0,s1]
     refine b8v (by simp [PV.plain1]) rfl rfl rfl hk3 rfl ?_
     simp [num,tx,h1,ho,hf,u4,A5,S9,U0,s0,s1]
     refine b8v (by simp [PV.plain1]) rfl rfl rfl hk4 rfl ?_
     simp [num,tx,h1,ho,hf,u4,A5,S9,U0,s0,s1]
     refine b8v (by simp [PV.plain1]) rfl rfl rfl hk5 rfl ?_
     simp [num,tx,h1,ho,hf,u4,A5,S9,U0,s0,s1]
     refine LoopNext.mk (i+1) h1 (by omega) (Le.mkDN _ _ _ ?_ ?_ ?_)
     · simp only [hlast]
       simp [num,s0,s1]
       exact wrap_i64 (by omega) (by omega)
     · intro kp hkp;cases hkp
     · intro k' j hk'
       by_cases h0:k'=0∧j=0
       · obtain ⟨rfl,rfl⟩:=h0
         simp [u4,A5]
         refine .prow _ _ _ _ _ fun j k hj hk=>?_
         by_cases hji:j=i
         · rw [if_neg (show ¬ i+1≤j by omega)];exact .undef _
         · simp [hji]
           by_cases hj2:i≤j
           · rw [if_pos hj2,if_pos (by omega)];exact .refl _
           · rw [if_neg hj2,if_neg (by omega)];exact .undef _
       · rw [if_neg h0]
         by_cases hji:j=i
         · rw [if_neg (show ¬ i+1≤j by omega)];exact .dead _
         · simp [hk',u4,A5,hji,h0]
           by_cases hj2:i≤j
           · rw [if_pos hj2,if_pos (by omega)];exact .refl _
           · rw [if_neg hj2,if_neg (by omega)];exact .refl _
   · have e:i=l.length:=by omega
     subst e
     simp [num,u4,A5]
     refine b59 ?_
     simp [T9,a49]
theorem c0w {M:Nat→MObj} (l:List LChannel) (h0:M (DN 0 0)=V2 l) (h:∀ k j,k < 16→(R1 l k j).live=true→M (DN k j)=R1 l k j):Res M (.own (DN 0 0)) (.list 6 (l.map j6)):=by
 refine .prow _ _ _ _ (T1 l) _ h0 (by simp) (fun x hx=>?_) fun j k hj hk=>?_
 · obtain ⟨y,_,rfl⟩:=List.mem_map.1 hx
   rfl
 have he:l[j]?=some l[j]:=List.getElem?_eq_getElem hj
 have e1:T1 l j k=(S9 l[j] j).getD k .undef:=by unfold T1;rw [he]
 have e2:(l.map j6).getD j .nilptr=j6 l[j]:=by simp [List.getD_eq_getElem?_getD,he]
 rw [e1,e2]
 generalize l[j]=x at he ⊢
 have:k=0∨k=1∨k=2∨k=3∨k=4∨k=5:=by omega
 rcases this with rfl | rfl | rfl | rfl | rfl | rfl
 · exact .val _
 · exact .val _
 · exact .row _ 185 _ _ (by rw [h 5 j (by omega) (by unfold R1;rw [he];rfl)];unfold R1;rw [he];rfl)
 · exact .row _ 194 _ _ (by rw [h 6 j (by omega) (by unfold R1;rw [he];rfl)];unfold R1;rw [he];rfl)
 · exact .row _ 174 _ _ (by rw [h 7 j (by omega) (by unfold R1;rw [he];rfl)];unfold R1;rw [he];rfl)
 · exact .row _ 9 _ _ (by rw [h 8 j (by omega) (by unfold R1;rw [he];rfl)];unfold R1;rw [he];rfl)
end Go.Proofs
end
section
namespace Go.Proofs
open Go.PW Go.KP
attribute [local simp] RV.cells RV.one PV.cells PV.solid PV.one G6 i7 M3 L4 RV.ofCells elems PV.killL
variable [GF]
attribute [local simp] a6x b1y b76 b77 b75 b5i a39 b2s a8g b63 b00 b2z a83
theorem b95 (p:LPolicy) (k:Nat) (hx:a0p 1048576 p) (hk:k+p.uris.length+G8 Z6 p.rules < 8388608):S2 Tryz.prog 26 [.agg (a3s p),.val (num k)] (dyn (P3 p)) (fun _=>false) (.val (num ((k+p.uris.length+G8 Z6 p.rules:Nat):Int))) (fun _=>.dead):=by
 refine Z3 mixed ok26 (fun i h=>a8q h) (fun i h=>by cases h) ?_
 unfold ir26
 rw [b6]
 obtain ⟨b0,b1,b2⟩:=hx
 have hl1:p.uris.length≤1048576:=b1.1
 have h1:=a4g p.uris k (by omega) hl1
 have h2:=c2m p.rules (k+p.uris.length) b2 (by omega)
 rw [Nat.one_mul] at h1
 obtain ⟨m,hm⟩:∃ m,k+p.uris.length=m:=⟨_,rfl⟩
 rw [hm] at h1 h2 ⊢
 simp [num,tx,a3s,P3,V0,a00]
 refine b8v (by simp [PV.plain1]) rfl rfl rfl h1 rfl ?_
 simp [num,tx,a3s,P3,V0,a00]
 refine c2s (G:=V0 p.rules) (fun k i=>k == 9 || k == 2 && i == 0) h2 ?_ ?_ ?_
 · intro q hq
   simp only [List.mem_cons,List.not_mem_nil,or_false] at hq
   rcases hq with rfl | rfl
   · exact P1 (by simp)
   · exact T0
 · intro k i hk' hl
   obtain ⟨e1,e2,_⟩:=a6n p.rules k i (S:=TD fun k i=>k == 9 || k == 2 && i == 0) (fun k j h=>by subst h;simp) hl
   refine ⟨e1,?_,e2⟩
   have h5:¬ (k=1∧i=0):=by simp at e1;omega
   simp [hk',h5,P3]
   rw [c1c _ _ _ _ fun k j h=>by simp]
 simp [num]
 refine b59 ?_
 simp [T9,a49,num]
theorem c5h (p:LPipe) (k:Nat) (hx:a07 1048576 p) (hk:k+a7g p < 8388608):S2 Tryz.prog 17 [.agg (a4b p),.val (num k)] (dyn (R3 p)) (fun _=>false) (.val (num ((k+a7g p:Nat):Int))) (fun _=>.dead):=by
 refine Z3 mixed ok17 (fun i h=>a8q h) (fun i h=>by cases h) ?_
 unfold ir17
 rw [b6]
 obtain ⟨b0,b1,b2,b3⟩:=hx
 have hcp:a7g p=G8 T5 p.channels+p.policy.uris.length+G8 Z6 p.policy.rules+3*p.log.length+G8 a0z p.wires:=rfl
 obtain ⟨m1,hm1⟩:∃ m,k+G8 T5 p.channels=m:=⟨_,rfl⟩
 obtain ⟨m2,hm2⟩:∃ m,m1+p.policy.uris.length+G8 Z6 p.policy.rules=m:=⟨_,rfl⟩
 obtain ⟨m3,hm3⟩:∃ m,m2+3*p.log.length=m:=⟨_,rfl⟩
 obtain ⟨m4,hm4⟩:∃ m,m3+G8 a0z p.wires=m:=⟨_,rfl⟩
 have h1:=b6h p.channels k b0 (by omega)
 have h2:=b95 p.policy m1 b1 (by omega)
 have h3:=b9y p.log m2 (by omega) b2
 have h4:=c2l p.wires m3 b3 (by omega)
 have hm:k+a7g p=m4:=by omega
 rw [hm1] at h1
 rw [hm2] at h2
 rw [hm3] at h3
 rw [hm4] at h4
 rw [hm]
 simp [num,tx,a4b,R3,P3,V0,a00,P5,V2,X4,a22]
 refine c2s (G:=P5 p.channels) (fun k i=>(k == 5 || k == 6 || k == 7 || k == 8) || k == 0 && i == 0) h1 ?_ ?_ ?_
 · intro q hq
   simp only [List.mem_cons,List.not_mem_nil,or_false] at hq
   rcases hq with rfl | rfl
   · exact P1 (by simp)
   · exact T0
 · intro k i hk' hl
   obtain ⟨e1,e2,_⟩:=a2a p.channels k i (S:=TD fun k i=>(k == 5 || k == 6 || k == 7 || k == 8) || k == 0 && i == 0) (fun k j h=>by rcases h with rfl | rfl | rfl | rfl<;>simp) hl
   refine ⟨e1,?_,e2⟩
   have h5:¬ (k=3∧i=0)∧¬ (k=1∧i=0∨k=2∧i=0∨k=9)∧¬ (k=4∧i=0∨k=10):=by simp at e1;omega
   simp [hk',R3,h5.1,h5.2.1,h5.2.2]
   rw [a3j _ _ _ _ fun k j h=>by simp]
 simp [num,tx,a4b,R3,P3,V0,a00,P5,V2,X4,a22]
 refine c2s (G:=P3 p.policy) (fun k i=>k == 1 && i == 0 || k == 9 || k == 2 && i == 0) h2 ?_ ?_ ?_
 · intro q hq
   simp only [List.mem_cons,List.not_mem_nil,or_false] at hq
   rcases hq with rfl | rfl
   · exact a2o fun q hq=>by
      simp only [a3s,List.mem_cons,List.not_mem_nil,or_false] at hq
      rcases hq with rfl | rfl | rfl
      · exact T0
      · exact P1 (by simp)
      · exact P1 (by simp)
   · exact T0
 · intro k i hk' hl
   obtain ⟨e1,e2,_⟩:=a5w p.policy k i (S:=TD fun k i=>k == 1 && i == 0 || k == 9 || k == 2 && i == 0) (fun k j h=>by subst h;simp) hl
   refine ⟨e1,?_,e2⟩
   have h5:¬ (k=3∧i=0)∧(k=1∧i=0∨k=2∧i=0∨k=9)∧¬ ((((k=5∨k=6)∨k=7)∨k=8)∨k=0∧i=0):=by simp at e1;omega
   simp [hk',R3,h5.1,h5.2.1,h5.2.2]
   rw [a4c _ _ _ _ fun k j h=>by simp,a4c _ _ _ _ fun k j h=>by subst h;simp]
 simp [num,tx,a4b,R3,P3,V0,a00,P5,V2,X4,a22]
 refine b8v (by simp [PV.plain1]) rfl rfl rfl h3 rfl ?_
 simp [num,tx,a4b,R3,P3,V0,a00,P5,V2,X4,a22]
 refine c2s (G:=X4 p.wires) (fun k i=>(k == 10) || k == 4 && i == 0) h4 ?_ ?_ ?_
 · intro q hq
   simp only [List.mem_cons,List.not_mem_nil,or_false] at hq
   rcases hq with rfl | rfl
   · exact P1 (by simp)
   · exact T0
 · intro k i hk' hl
   obtain ⟨e1,e2,_⟩:=a9h p.wires k i (S:=TD fun k i=>(k == 10) || k == 4 && i == 0) (fun k j h=>by subst h;simp) hl
   refine ⟨e1,?_,e2⟩
   have h5:¬ (k=3∧i=0)∧¬ (k=1∧i=0∨k=2∧i=0∨k=9)∧(k=4∧i=0∨k=10)∧¬ ((((k=5∨k=6)∨k=7)∨k=8)∨k=0∧i=0)∧¬ ((k=1∧i=0∨k=9)∨k=2∧i=0):=by simp at e1;omega
   simp [hk',R3,h5.1,h5.2.1,h5.2.2.1,h5.2.2.2.1,h5.2.2.2.2]
   rw [a79 _ _ _ _ fun k j h=>by simp,a79 _ _ _ _ fun k j h=>by subst h;simp,a79 _ _ _ _ fun k j h=>by subst h;simp]
 simp [num]
 refine b59 ?_
 simp [T9,a49,num]
theorem a8a (p:LPipe) (k i:Nat) (h:k=1∧i=0∨k=2∧i=0∨k=9):R3 p k i=P3 p.policy k i:=by
 unfold R3;rw [if_neg (by omega),if_pos h]
theorem b8a (p:LPipe) (k i:Nat) (h:k=4∧i=0∨k=10):R3 p k i=X4 p.wires k i:=by
 unfold R3;rw [if_neg (by omega),if_neg (by omega),if_pos h]
theorem b1g (p:LPipe) (k i:Nat) (h:k=0∧i=0∨k=5∨k=6∨k=7∨k=8):R3 p k i=P5 p.channels k i:=by
 unfold R3;rw [if_neg (by omega),if_neg (by omega),if_neg (by omega)]
theorem b2e (p:LPipe) (k i:Nat) (h:(R3 p k i).live=true):a0w k i=true:=by
 unfold R3 at h
 unfold a0w
 split at h
 · rename_i e;simp [e]
 split at h
 · rename_i e;rcases e with e | e | e<;>simp [e]
 split at h
 · rename_i e;rcases e with e | e<;>simp [e]
 · have:=(a2a p.channels k i (S:=fun _=>true) (fun _ _ _=>rfl) h).1
   simp at this
   simp;omega
theorem a6o (p:LPipe) (k i:Nat):(R3 p k i).onT (TD a0w):=by
 unfold R3
 split
 · exact U3
 split
 · exact a5v p.policy k i fun k j h=>by subst h;simp [a0w]
 split
 · exact b2d p.wires k i fun k j h=>by subst h;simp [a0w]
 · exact a67 p.channels k i fun k j h=>by rcases h with rfl | rfl | rfl | rfl<;>simp [a0w]
theorem b0c (p:LPipe) (k i:Nat):∀ cs,R3 p k i≠.box cs:=by
 intro cs h
 have hl:(R3 p k i).live=true:=by rw [h];rfl
 unfold R3 at h hl
 split at h
 · cases h
 rename_i h0
 rw [if_neg h0] at hl
 split at h
 · rename_i e;rw [if_pos e] at hl;exact (a5w p.policy k i (S:=fun _=>true) (fun _ _ _=>rfl) hl).2.2 cs h
 rename_i h1
 rw [if_neg h1] at hl
 split at h
 · rename_i e;rw [if_pos e] at hl;exact (a9h p.wires k i (S:=fun _=>true) (fun _ _ _=>rfl) hl).2.2 cs h
 · rename_i e;rw [if_neg e] at hl;exact (a2a p.channels k i (S:=fun _=>true) (fun _ _ _=>rfl) hl).2.2 cs h
theorem c1d (p:LPipe) (k i:Nat) (d:Nat→Bool) (h:∀ x,TD a0w x=true→d x=false):(R3 p k i).kill d=R3 p k i:=(a6o p k i).2 d h
theorem b2f (p:LPipe) (k i n:Nat) (hn:n < 1000000):(R3 p k i).kill (fun x=>x == n)=R3 p k i:=c1d p k i _ fun x hx=>by
 have:=TD_D hx
 simp [isD] at this
 simp;omega
theorem a9m (p:LPipe):(PV.agg (a4b p)).onT (TD a0w):=a2o fun q hq=>by
 simp only [a4b,List.mem_cons,List.not_mem_nil,or_false] at hq
 rcases hq with rfl | rfl | rfl | rfl | rfl | rfl | rfl | rfl
 · exact P1 (by simp [a0w])
 · exact T0
 · exact P1 (by simp [a0w])
 · exact P1 (by simp [a0w])
 · exact T0
 · exact T0
 · exact P1 (by simp [a0w])
 · exact P1 (by simp [a0w])
theorem b47 (p:LPipe) (M:Nat→MObj) (h:∀ k j,k < 16→a0w k j=true→M (DN k j)=R3 p k j):Res M (.agg (a4b p)) (L8 p):=by
 have hc:=c0w (M:=M) p.channels (by rw [h 0 0 (by omega) (by simp [a0w]),b1g _ _ _ (by omega)];simp [P5]) fun k j hk hl=>by
  rcases a4h p.channels k j with ⟨h',_,_⟩ | e
  · rw [h k j hk (by rcases h' with rfl | rfl | rfl | rfl<;>simp [a0w]),b1g _ _ _ (by omega)]
    unfold P5;rw [if_neg (by omega)]
  · rw [e] at hl;cases hl
 have hr:=c9x (M:=M) p.policy.rules (by rw [h 2 0 (by omega) (by simp [a0w]),a8a _ _ _ (by omega)];simp [P3,V0]) fun k j hk hl=>by
  rcases a7e p.policy.rules k j with ⟨h',_,_⟩ | e
  · rw [h k j hk (by subst h';simp [a0w]),a8a _ _ _ (by omega)]
    unfold P3 V0;rw [if_neg (by omega),if_neg (by omega)]
  · rw [e] at hl;cases hl
 have hw:=c9w (M:=M) p.wires (by rw [h 4 0 (by omega) (by simp [a0w]),b8a _ _ _ (by omega)];simp [X4]) fun k j hk hl=>by
  rcases a7d p.wires k j with ⟨h',_,_⟩ | e
  · rw [h k j hk (by subst h';simp [a0w]),b8a _ _ _ (by omega)]
    unfold X4;rw [if_neg (by omega)]
  · rw [e] at hl;cases hl
 refine .agg _ _ rfl fun i hi=>?_
 have:i=0∨i=1∨i=2∨i=3∨i=4∨i=5∨i=6∨i=7:=by simp [a4b] at hi;omega
 rcases this with rfl | rfl | rfl | rfl | rfl | rfl | rfl | rfl
 · exact hc
 · exact .val _
 · exact .row _ 9 _ _ (by rw [h 1 0 (by omega) (by simp [a0w]),a8a _ _ _ (by omega)];simp [P3])
 · exact hr
 · exact .val _
 · exact .val _
 · exact .row _ 157 _ _ (by rw [h 3 0 (by omega) (by simp [a0w])];simp [R3])
 · exact hw
theorem b4s (p:LPipe) (hs:a07 1048576 p):d8 Tryz.prog 11 [.val (L8 p)] (.ret (.val (L8 p)) []) []:=
 ok_of_mem (c2j p hs) (b47 p _ fun k j hk _=>a39 hk)
end Go.Proofs
end
