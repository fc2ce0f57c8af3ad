/- Fd: merged out of KXb, KXc, KXd, KXe. -/
import Derived.Test.YtapjdgcfakhpaaaGreatDoorFc
import Derived.Test.YtapjdgcfakhpaaaGreatDoorPWaf
import Derived.Test.YtapjdgcfakhpaaaGreatDoorPWag
set_option linter.unusedSectionVars false
set_option linter.unusedSimpArgs false
set_option linter.unusedVariables false
set_option maxRecDepth 100000
section
namespace Go.Proofs
open Go.PW Go.KP
attribute [local simp] RV.cells RV.one PV.cells PV.solid PV.one G1 i6 L8 K7 RV.ofCells elems PV.killL
variable [GF]
attribute [local simp] a6k b1q b7o b7p b7n b4y a3z b2g a74 b6l b0r b2o a8t
theorem a49 {α:Type} {f:α→RV} (h:∀ x,(f x).flat=true) (l:List α):∀ x∈l.map f,x.flat=true:=fun x hx=>by
 obtain ⟨y,_,rfl⟩:=List.mem_map.1 hx
 exact h y
theorem a8j (l:List Tx) (k j:Nat) (hk:k < 16) (hx:bdS 1048576 (fun t=>t.length≤1048576) l):Q9 Tryz.prog 70 [.val (.list 1 (l.map tx))] (fun _=>.dead) (fun _=>false) (.own (DN k j)) (dyn fun k' j'=>if k'=k∧j'=j then .row 9 1 (l.map tx) else .dead):=
 a86 (b2e l hx) (a49 (fun _=>rfl) l) k j hk
theorem d1l (l:List Int) (k j:Nat) (hk:k < 16) (hx:l.length≤1048576):Q9 Tryz.prog 167 [.val (.list 1 (l.map num))] (fun _=>.dead) (fun _=>false) (.own (DN k j)) (dyn fun k' j'=>if k'=k∧j'=j then .row 3 1 (l.map num) else .dead):=
 a86 (b7a l hx) (a49 (fun _=>rfl) l) k j hk
theorem c2c (l:List LTarget) (k j:Nat) (hk:k < 16) (hx:bdS 1048576 (U4 1048576) l):Q9 Tryz.prog 226 [.val (.list 3 (l.map f8))] (fun _=>.dead) (fun _=>false) (.own (DN k j)) (dyn fun k' j'=>if k'=k∧j'=j then .row 185 3 (l.map f8) else .dead):=
 a86 (b2d l hx) (a49 (fun _=>rfl) l) k j hk
theorem c8u (l:List LPeer) (k j:Nat) (hk:k < 16) (hx:bdS 1048576 (a1d 1048576) l):Q9 Tryz.prog 165 [.val (.list 6 (l.map F9))] (fun _=>.dead) (fun _=>false) (.own (DN k j)) (dyn fun k' j'=>if k'=k∧j'=j then .row 194 6 (l.map F9) else .dead):=
 a86 (b5o l hx) (a49 (fun _=>rfl) l) k j hk
theorem c2d (l:List LReport) (k j:Nat) (hk:k < 16) (hx:bdS 1048576 (X2 1048576) l):Q9 Tryz.prog 228 [.val (.list 4 (l.map i7))] (fun _=>.dead) (fun _=>false) (.own (DN k j)) (dyn fun k' j'=>if k'=k∧j'=j then .row 174 4 (l.map i7) else .dead):=
 a86 (b2f l hx) (a49 (fun _=>rfl) l) k j hk
theorem c5e (l:List LEntry) (k j:Nat) (hk:k < 16) (hx:l.length≤1048576):Q9 Tryz.prog 52 [.val (.list 3 (l.map G0))] (fun _=>.dead) (fun _=>false) (.own (DN k j)) (dyn fun k' j'=>if k'=k∧j'=j then .row 157 3 (l.map G0) else .dead):=
 a86 (b3r l hx) (a49 (fun _=>rfl) l) k j hk
def a39 (x:LGroup) (j:Nat):List PV:=[.val (tx x.name),.val (num x.age),.own (DN 5 j)]
def a2l (x:LGroup) (k:Nat):MObj:=if k=5 then .row 185 3 (x.targets.map f8) else .dead
theorem a7u (x:LGroup) (k:Nat):((k=5)∧∃ E sz xs,a2l x k=.row E sz xs)∨a2l x k=.dead∧¬ (k=5):=by
 by_cases h:k=5
 · refine .inl ⟨h,?_⟩
   unfold a2l
   subst h;simp
 · refine .inr ⟨?_,h⟩
   unfold a2l
   skip
   simp [h]
theorem b6d (x:LGroup) (j:Nat) {S:Nat→Bool} (h:∀ k,(k=5)→S (DN k j)=true):(PV.agg (a39 x j)).onT S:=by
 refine a2e fun p hp=>?_
 simp only [a39,List.mem_cons,List.not_mem_nil,or_false] at hp
 rcases hp with rfl | rfl | rfl
 · exact S5
 · exact S5
 · exact O6 (h _ (by simp))
theorem c8v (x:LGroup) (j:Nat) (hx:a12 1048576 x):Q9 Tryz.prog 164 [.val (L9 x)] (fun _=>.dead) (fun _=>false) (.agg (a39 x j)) (dyn fun k i=>if i=j then a2l x k else .dead):=by
 refine Y6 mixed ok164 (fun i h=>by cases h) (fun i h=>by cases h) ?_
 unfold ir164
 rw [b6]
 unfold a12 at hx
 obtain ⟨b0,b1⟩:=hx
 simp [L9,tx,num]
 refine a3p (rs:=[.list 3 (x.targets.map f8)]) (fun k' i'=>k' == 5 && i' == j) rfl (c2c x.targets 5 j (by omega) b1) ?_ ?_ ?_
 · intro k i hk hl
   by_cases h:k=5∧i=j
   · rw [if_pos h]
     exact ⟨by simp [h],T9,fun cs h=>by cases h⟩
   · rw [if_neg h] at hl;cases hl
 · exact O6 (by simp)
 simp [L9,tx,num]
 refine b0f _ ?_ ?_ ?_ ?_
 · simp [a39,a2l,L9,tx,num,T5,a4z]
 · intro k i hk hl
   by_cases h:i=j
   · subst h
     rw [if_pos rfl] at hl ⊢
     rcases a7u x k with ⟨h,E,sz,xs,e⟩ | ⟨h,_⟩
     · subst h<;>simp [a39,a2l]
     · rw [h] at hl;cases hl
   · rw [if_neg h] at hl;cases hl
 · exact b6d x j fun k _=>by simp
 · intro k i hk
   by_cases h:i=j
   · rw [if_pos h]
     rcases a7u x k with ⟨h,E,sz,xs,e⟩ | ⟨h,_⟩
     · rw [e];exact T9
     · rw [h];exact Y4
   · rw [if_neg h];exact Y4
def a38 (x:LQueue) (j:Nat):List PV:=[.own (DN 7 j),.own (DN 8 j)]
def a2k (x:LQueue) (k:Nat):MObj:=if k=7 then .row 174 4 (x.items.map i7) else if k=8 then .row 9 1 (x.recent.map tx) else .dead
theorem a7t (x:LQueue) (k:Nat):((k=7∨k=8)∧∃ E sz xs,a2k x k=.row E sz xs)∨a2k x k=.dead∧¬ (k=7∨k=8):=by
 by_cases h:k=7∨k=8
 · refine .inl ⟨h,?_⟩
   unfold a2k
   rcases h with rfl | rfl<;>simp
 · refine .inr ⟨?_,h⟩
   unfold a2k
   simp only [not_or] at h
   simp [h]
theorem b6c (x:LQueue) (j:Nat) {S:Nat→Bool} (h:∀ k,(k=7∨k=8)→S (DN k j)=true):(PV.agg (a38 x j)).onT S:=by
 refine a2e fun p hp=>?_
 simp only [a38,List.mem_cons,List.not_mem_nil,or_false] at hp
 rcases hp with rfl | rfl
 · exact O6 (h _ (by simp))
 · exact O6 (h _ (by simp))
theorem c8t (x:LQueue) (j:Nat) (hx:a2n 1048576 x):Q9 Tryz.prog 166 [.val (K8 x)] (fun _=>.dead) (fun _=>false) (.agg (a38 x j)) (dyn fun k i=>if i=j then a2k x k else .dead):=by
 refine Y6 mixed ok166 (fun i h=>by cases h) (fun i h=>by cases h) ?_
 unfold ir166
 rw [b6]
 unfold a2n at hx
 obtain ⟨b0,b1⟩:=hx
 simp [K8,tx,num]
 refine a3p (rs:=[.list 4 (x.items.map i7)]) (fun k' i'=>k' == 7 && i' == j) rfl (c2d x.items 7 j (by omega) b0) ?_ ?_ ?_
 · intro k i hk hl
   by_cases h:k=7∧i=j
   · rw [if_pos h]
     exact ⟨by simp [h],T9,fun cs h=>by cases h⟩
   · rw [if_neg h] at hl;cases hl
 · exact O6 (by simp)
 simp [K8,tx,num]
 refine a3p (rs:=[.list 1 (x.recent.map tx)]) (fun k' i'=>k' == 8 && i' == j) rfl (a8j x.recent 8 j (by omega) b1) ?_ ?_ ?_
 · intro k i hk hl
   by_cases h:k=8∧i=j
   · rw [if_pos h]
     exact ⟨by simp [h],T9,fun cs h=>by cases h⟩
   · rw [if_neg h] at hl;cases hl
 · exact O6 (by simp)
 simp [K8,tx,num]
 refine b0f _ ?_ ?_ ?_ ?_
 · simp [a38,a2k,K8,tx,num,T5,a4z]
 · intro k i hk hl
   by_cases h:i=j
   · subst h
     rw [if_pos rfl] at hl ⊢
     rcases a7t x k with ⟨h,E,sz,xs,e⟩ | ⟨h,_⟩
     · rcases h with rfl | rfl<;>simp [a38,a2k]
     · rw [h] at hl;cases hl
   · rw [if_neg h] at hl;cases hl
 · exact b6c x j fun k _=>by simp
 · intro k i hk
   by_cases h:i=j
   · rw [if_pos h]
     rcases a7t x k with ⟨h,E,sz,xs,e⟩ | ⟨h,_⟩
     · rw [e];exact T9
     · rw [h];exact Y4
   · rw [if_neg h];exact Y4
def a1t (x:LRule) (j:Nat):List PV:=[.val (tx x.name),.own (DN 9 j)]
def a2o (x:LRule) (k:Nat):MObj:=if k=9 then .row 9 1 (x.words.map tx) else .dead
theorem a42 (x:LRule) (k:Nat):((k=9)∧∃ E sz xs,a2o x k=.row E sz xs)∨a2o x k=.dead∧¬ (k=9):=by
 by_cases h:k=9
 · refine .inl ⟨h,?_⟩
   unfold a2o
   subst h;simp
 · refine .inr ⟨?_,h⟩
   unfold a2o
   skip
   simp [h]
theorem b74 (x:LRule) (j:Nat) {S:Nat→Bool} (h:∀ k,(k=9)→S (DN k j)=true):(PV.agg (a1t x j)).onT S:=by
 refine a2e fun p hp=>?_
 simp only [a1t,List.mem_cons,List.not_mem_nil,or_false] at hp
 rcases hp with rfl | rfl
 · exact S5
 · exact O6 (h _ (by simp))
theorem d1k (x:LRule) (j:Nat) (hx:X5 1048576 x):Q9 Tryz.prog 129 [.val (l4 x)] (fun _=>.dead) (fun _=>false) (.agg (a1t x j)) (dyn fun k i=>if i=j then a2o x k else .dead):=by
 refine Y6 mixed ok129 (fun i h=>by cases h) (fun i h=>by cases h) ?_
 unfold ir129
 rw [b6]
 unfold X5 at hx
 obtain ⟨b0,b1⟩:=hx
 simp [l4,tx,num]
 refine a3p (rs:=[.list 1 (x.words.map tx)]) (fun k' i'=>k' == 9 && i' == j) rfl (a8j x.words 9 j (by omega) b1) ?_ ?_ ?_
 · intro k i hk hl
   by_cases h:k=9∧i=j
   · rw [if_pos h]
     exact ⟨by simp [h],T9,fun cs h=>by cases h⟩
   · rw [if_neg h] at hl;cases hl
 · exact O6 (by simp)
 simp [l4,tx,num]
 refine b0f _ ?_ ?_ ?_ ?_
 · simp [a1t,a2o,l4,tx,num,T5,a4z]
 · intro k i hk hl
   by_cases h:i=j
   · subst h
     rw [if_pos rfl] at hl ⊢
     rcases a42 x k with ⟨h,E,sz,xs,e⟩ | ⟨h,_⟩
     · subst h<;>simp [a1t,a2o]
     · rw [h] at hl;cases hl
   · rw [if_neg h] at hl;cases hl
 · exact b74 x j fun k _=>by simp
 · intro k i hk
   by_cases h:i=j
   · rw [if_pos h]
     rcases a42 x k with ⟨h,E,sz,xs,e⟩ | ⟨h,_⟩
     · rw [e];exact T9
     · rw [h];exact Y4
   · rw [if_neg h];exact Y4
def a05 (x:LWire) (j:Nat):List PV:=[.val (num x.at_),.val (num x.status),.val (tx x.group),.val (tx x.url),.own (DN 10 j),.val (tx x.body),.val (.bool x.lost)]
def a1k (x:LWire) (k:Nat):MObj:=if k=10 then .row 3 1 (x.ids.map num) else .dead
theorem a41 (x:LWire) (k:Nat):((k=10)∧∃ E sz xs,a1k x k=.row E sz xs)∨a1k x k=.dead∧¬ (k=10):=by
 by_cases h:k=10
 · refine .inl ⟨h,?_⟩
   unfold a1k
   subst h;simp
 · refine .inr ⟨?_,h⟩
   unfold a1k
   skip
   simp [h]
theorem b73 (x:LWire) (j:Nat) {S:Nat→Bool} (h:∀ k,(k=10)→S (DN k j)=true):(PV.agg (a05 x j)).onT S:=by
 refine a2e fun p hp=>?_
 simp only [a05,List.mem_cons,List.not_mem_nil,or_false] at hp
 rcases hp with rfl | rfl | rfl | rfl | rfl | rfl | rfl
 · exact S5
 · exact S5
 · exact S5
 · exact S5
 · exact O6 (h _ (by simp))
 · exact S5
 · exact S5
theorem d1j (x:LWire) (j:Nat) (hx:Z4 1048576 x):Q9 Tryz.prog 103 [.val (H5 x)] (fun _=>.dead) (fun _=>false) (.agg (a05 x j)) (dyn fun k i=>if i=j then a1k x k else .dead):=by
 refine Y6 mixed ok103 (fun i h=>by cases h) (fun i h=>by cases h) ?_
 unfold ir103
 rw [b6]
 unfold Z4 at hx
 obtain ⟨b0,b1,b2,b3⟩:=hx
 simp [H5,tx,num]
 refine a3p (rs:=[.list 1 (x.ids.map num)]) (fun k' i'=>k' == 10 && i' == j) rfl (d1l x.ids 10 j (by omega) b2) ?_ ?_ ?_
 · intro k i hk hl
   by_cases h:k=10∧i=j
   · rw [if_pos h]
     exact ⟨by simp [h],T9,fun cs h=>by cases h⟩
   · rw [if_neg h] at hl;cases hl
 · exact O6 (by simp)
 simp [H5,tx,num]
 refine b0f _ ?_ ?_ ?_ ?_
 · simp [a05,a1k,H5,tx,num,T5,a4z]
 · intro k i hk hl
   by_cases h:i=j
   · subst h
     rw [if_pos rfl] at hl ⊢
     rcases a41 x k with ⟨h,E,sz,xs,e⟩ | ⟨h,_⟩
     · subst h<;>simp [a05,a1k]
     · rw [h] at hl;cases hl
   · rw [if_neg h] at hl;cases hl
 · exact b73 x j fun k _=>by simp
 · intro k i hk
   by_cases h:i=j
   · rw [if_pos h]
     rcases a41 x k with ⟨h,E,sz,xs,e⟩ | ⟨h,_⟩
     · rw [e];exact T9
     · rw [h];exact Y4
   · rw [if_neg h];exact Y4
def S4 (x:LChannel) (j:Nat):List PV:=[.val (tx x.group.name),.val (num x.group.age),.own (DN 5 j),.own (DN 6 j),.own (DN 7 j),.own (DN 8 j)]
def T6 (x:LChannel) (k:Nat):MObj:=if k=5 then .row 185 3 (x.group.targets.map f8) else if k=6 then .row 194 6 (x.peers.map F9) else if k=7 then .row 174 4 (x.queue.items.map i7) else if k=8 then .row 9 1 (x.queue.recent.map tx) else .dead
theorem a2d (x:LChannel) (k:Nat):((k=5∨k=6∨k=7∨k=8)∧∃ E sz xs,T6 x k=.row E sz xs)∨T6 x k=.dead∧¬ (k=5∨k=6∨k=7∨k=8):=by
 by_cases h:k=5∨k=6∨k=7∨k=8
 · refine .inl ⟨h,?_⟩
   unfold T6
   rcases h with rfl | rfl | rfl | rfl<;>simp
 · refine .inr ⟨?_,h⟩
   unfold T6
   simp only [not_or] at h
   simp [h]
theorem b1m (x:LChannel) (j:Nat) {S:Nat→Bool} (h:∀ k,(k=5∨k=6∨k=7∨k=8)→S (DN k j)=true):(PV.agg (S4 x j)).onT S:=by
 refine a2e fun p hp=>?_
 simp only [S4,List.mem_cons,List.not_mem_nil,or_false] at hp
 rcases hp with rfl | rfl | rfl | rfl | rfl | rfl
 · exact S5
 · exact S5
 · exact O6 (h _ (by simp))
 · exact O6 (h _ (by simp))
 · exact O6 (h _ (by simp))
 · exact O6 (h _ (by simp))
theorem c2f (x:LChannel) (j:Nat) (hx:Q8 1048576 x):Q9 Tryz.prog 101 [.val (j5 x)] (fun _=>.dead) (fun _=>false) (.agg (S4 x j)) (dyn fun k i=>if i=j then T6 x k else .dead):=by
 refine Y6 mixed ok101 (fun i h=>by cases h) (fun i h=>by cases h) ?_
 unfold ir101
 rw [b6]
 unfold Q8 at hx
 obtain ⟨b0,b1,b2⟩:=hx
 simp [L9,K8,j5,tx,num]
 refine a3p (rs:=[L9 x.group]) (fun k' i'=>(k' == 5) && i' == j) rfl (c8v x.group j b0) ?_ ?_ ?_
 · intro k' i' hk hl
   by_cases h:i'=j
   · subst h
     rw [if_pos rfl] at hl ⊢
     rcases a7u x.group k' with ⟨h,E,sz,xs,e⟩ | ⟨h,_⟩
     · rw [e];exact ⟨by subst h;simp,T9,fun cs h=>by cases h⟩
     · rw [h] at hl;cases hl
   · rw [if_neg h] at hl;cases hl
 · refine b6d x.group j fun k hk=>?_
   subst hk;simp
 simp [L9,K8,j5,a39,a2l,a38,a2k,tx,num]
 refine a3p (rs:=[.list 6 (x.peers.map F9)]) (fun k' i'=>k' == 6 && i' == j) rfl (c8u x.peers 6 j (by omega) b1) ?_ ?_ ?_
 · intro k i hk hl
   by_cases h:k=6∧i=j
   · rw [if_pos h]
     exact ⟨by simp [h],T9,fun cs h=>by cases h⟩
   · rw [if_neg h] at hl;cases hl
 · exact O6 (by simp)
 simp [L9,K8,j5,a39,a2l,a38,a2k,tx,num]
 refine a3p (rs:=[K8 x.queue]) (fun k' i'=>(k' == 7 || k' == 8) && i' == j) rfl (c8t x.queue j b2) ?_ ?_ ?_
 · intro k' i' hk hl
   by_cases h:i'=j
   · subst h
     rw [if_pos rfl] at hl ⊢
     rcases a7t x.queue k' with ⟨h,E,sz,xs,e⟩ | ⟨h,_⟩
     · rw [e];exact ⟨by rcases h with rfl | rfl<;>simp,T9,fun cs h=>by cases h⟩
     · rw [h] at hl;cases hl
   · rw [if_neg h] at hl;cases hl
 · refine b6c x.queue j fun k hk=>?_
   rcases hk with rfl | rfl<;>simp
 simp [L9,K8,j5,a39,a2l,a38,a2k,tx,num]
 refine b0f _ ?_ ?_ ?_ ?_
 · simp [a39,a2l,a38,a2k,S4,T6,L9,K8,j5,tx,num,T5,a4z]
 · intro k i hk hl
   by_cases h:i=j
   · subst h
     rw [if_pos rfl] at hl ⊢
     rcases a2d x k with ⟨h,E,sz,xs,e⟩ | ⟨h,_⟩
     · rcases h with rfl | rfl | rfl | rfl<;>simp [a39,a2l,a38,a2k,S4,T6]
     · rw [h] at hl;cases hl
   · rw [if_neg h] at hl;cases hl
 · exact b1m x j fun k _=>by simp
 · intro k i hk
   by_cases h:i=j
   · rw [if_pos h]
     rcases a2d x k with ⟨h,E,sz,xs,e⟩ | ⟨h,_⟩
     · rw [e];exact T9
     · rw [h];exact Y4
   · rw [if_neg h];exact Y4
def S6 (l:List LChannel) (j k:Nat):PV:=match l[j]? with
 | some x=>(S4 x j).getD k .undef
 | none=>.undef
def U7 (l:List LChannel):MObj:=.prow 154 6 l.length (S6 l)
def Q6 (l:List LChannel) (k j:Nat):MObj:=match l[j]? with
 | some x=>T6 x k
 | none=>.dead
theorem b9v (x:LChannel) (j k:Nat):(∃ r,(S4 x j).getD k .undef=.val r)∨(S4 x j).getD k .undef=.undef∨(∃ k',(k'=5∨k'=6∨k'=7∨k'=8)∧(S4 x j).getD k .undef=.own (DN k' j)):=by
 unfold S4
 by_cases h:k < 6
 · have:k=0∨k=1∨k=2∨k=3∨k=4∨k=5:=by omega
   rcases this with rfl | rfl | rfl | rfl | rfl | rfl<;>simp
 · rw [List.getD_eq_getElem?_getD,List.getElem?_eq_none (by simp;omega)]
   exact .inr (.inl rfl)
theorem a9n (l:List LChannel) (j k:Nat):(∃ r,S6 l j k=.val r)∨S6 l j k=.undef∨(∃ k',(k'=5∨k'=6∨k'=7∨k'=8)∧S6 l j k=.own (DN k' j)):=by
 unfold S6
 cases l[j]? with
 | none=>exact .inr (.inl rfl)
 | some x=>exact b9v x j k
theorem b3l (l:List LChannel) (j k:Nat) (d:Nat→Bool) (h:∀ k',(k'=5∨k'=6∨k'=7∨k'=8)→d (DN k' j)=false):(S6 l j k).kill d=S6 l j k:=by
 rcases a9n l j k with ⟨r,e⟩ | e | ⟨k',hk,e⟩<;>rw [e]<;>simp only [PV.kill]
 rw [h k' hk];rfl
theorem a35 (l:List LChannel) (k j:Nat):((k=5∨k=6∨k=7∨k=8)∧j < l.length∧∃ E sz xs,Q6 l k j=.row E sz xs)∨Q6 l k j=.dead:=by
 unfold Q6
 by_cases h:j < l.length
 · rw [List.getElem?_eq_getElem h]
   rcases a2d l[j] k with ⟨h',e⟩ | ⟨h,_⟩
   · exact .inl ⟨h',h,e⟩
   · exact .inr h
 · rw [List.getElem?_eq_none (by omega)];exact .inr rfl
theorem b5w (l:List LChannel) (k j:Nat) (d:Nat→Bool):(Q6 l k j).kill d=Q6 l k j:=by
 rcases a35 l k j with ⟨_,_,E,sz,xs,e⟩ | e<;>rw [e]<;>rfl
theorem b03 (l:List LChannel) {S:Nat→Bool} (h:∀ k j,(k=5∨k=6∨k=7∨k=8)→S (DN k j)=true):(U7 l).onT S:=by
 refine b4s fun j k=>?_
 rcases a9n l j k with ⟨r,e⟩ | e | ⟨k',hk,e⟩
 · exact .inl ⟨r,e⟩
 · exact .inr (.inl e)
 · exact .inr (.inr (.inr ⟨_,e,h k' j hk⟩))
def P1 (l:List LChannel) (k i:Nat):MObj:=if k=0∧i=0 then U7 l else Q6 l k i
theorem a1z (l:List LChannel) (k i:Nat) {S:Nat→Bool} (hS:∀ k j,(k=5∨k=6∨k=7∨k=8)→S (DN k j)=true) (h:(P1 l k i).live=true):((k == 5 || k == 6 || k == 7 || k == 8) || (k == 0 && i == 0))=true∧(P1 l k i).onT S∧∀ cs,P1 l k i≠.box cs:=by
 unfold P1 at h ⊢
 by_cases h0:k=0∧i=0
 · rw [if_pos h0]
   exact ⟨by simp [h0],b03 l hS,fun cs h=>by cases h⟩
 · rw [if_neg h0] at h ⊢
   rcases a35 l k i with ⟨h',_,E,sz,xs,e⟩ | e
   · rw [e]
     refine ⟨?_,T9,fun cs h=>by cases h⟩
     rcases h' with rfl | rfl | rfl | rfl<;>simp
   · rw [e] at h;cases h
theorem a6u (l:List LChannel) (k i:Nat) {S:Nat→Bool} (hS:∀ k j,(k=5∨k=6∨k=7∨k=8)→S (DN k j)=true):(P1 l k i).onT S:=by
 cases hl:(P1 l k i).live with
 | true=>exact (a1z l k i hS hl).2.1
 | false=>cases hm:P1 l k i<;>rw [hm] at hl<;>first | exact Y4 | cases hl
theorem a3a (l:List LChannel) (k i:Nat) (d:Nat→Bool) (h:∀ k j,(k=5∨k=6∨k=7∨k=8)→d (DN k j)=false):(P1 l k i).kill d=P1 l k i:=
 (a6u l k i (S:=fun x=>!d x) fun k j hk=>by simp [h k j hk]).2 d fun x hx=>by simpa using hx
theorem b9p (l:List LChannel) (hx:bdS 1048576 (Q8 1048576) l):Q9 Tryz.prog 51 [.val (.list 6 (l.map j5))] (fun _=>.dead) (fun _=>false) (.own (DN 0 0)) (dyn (P1 l)):=by
 refine Y6 mixed okp51 (fun i h=>by cases h) (fun i h=>by cases h) ?_
 unfold irp51
 rw [b6]
 have hl:l.length≤1048576:=hx.1
 simp [num,G1]
 refine ⟨by omega,by omega,?_⟩
 refine j7 (X:=Nat) (fun i=>⟨t6 [(0,.val (.list 6 (l.map j5))),(3,.own 7),(4,.val (num i))],b05 [(7,.prow 154 6 l.length fun j k=>if j < i then S6 l j k else .undef)] (fun k j=>if j < i then Q6 l k j else .dead)⟩) (fun i=>i≤l.length) (fun i=>l.length - i) 0 (Le.mkDN _ _ _ ?_ ?_ ?_) (Nat.zero_le _) ?_
 · simp [upd,num,PV.kill]
 · intro kp hkp
   rw [List.mem_singleton.1 hkp]
   simp [upd]
   refine .rowp _ _ _ _ _ (by simp) fun j k hj hk=>?_
   exact .undef _
 · intro k j hk
   simp
   exact .dead _
 · intro i hi
   simp [num,t7,z8]
   refine f7 (fun h1=>?_) (fun h1=>?_)
   · obtain ⟨x,hxe⟩:∃ x,l[i]=x:=⟨_,rfl⟩
     have he:l[i]?=some x:=by rw [List.getElem?_eq_getElem h1,hxe]
     have hbx:Q8 1048576 x:=by rw [← hxe];exact hx.2 _ (List.getElem_mem h1)
     simp [num,h1,he,hxe,t7,z8,j5]
     refine a3p (rs:=[j5 x]) (fun k' i'=>(k' == 5 || k' == 6 || k' == 7 || k' == 8) && i' == i) rfl (c2f x i hbx) ?_ ?_ ?_
     · intro k' i' hk hl
       by_cases h:i'=i
       · subst h
         rw [if_pos rfl] at hl ⊢
         rcases a2d x k' with ⟨h,E,sz,xs,e⟩ | ⟨h,_⟩
         · rw [e];exact ⟨by rcases h with rfl | rfl | rfl | rfl<;>simp,T9,fun cs h=>by cases h⟩
         · rw [h] at hl;cases hl
       · rw [if_neg h] at hl;cases hl
     · refine b1m x i fun k h=>?_
       rcases h with rfl | rfl | rfl | rfl<;>simp
     simp [num,tx,h1,he,t7,z8,S4,T6]
     refine LoopNext.mk (i+1) h1 (by omega) (Le.mkDN _ _ _ ?_ ?_ ?_)
     · simp [num]
       exact wrap_i64 (by omega) (by omega)
     · intro kp hkp
       rw [List.mem_singleton.1 hkp]
       simp [t7,z8]
       refine .prow _ _ _ _ _ fun j k hj hk=>?_
       by_cases hji:j=i
       · subst hji
         have e:S6 l j k=(S4 x j).getD k .undef:=by unfold S6;rw [he]
         rw [if_pos ⟨rfl,hk⟩,if_pos (by omega),e]
         exact .refl _
       · rw [if_neg (fun h=>hji h.1)]
         by_cases hj2:j < i
         · rw [if_pos hj2,if_pos (by omega),b3l]
           · exact .refl _
           · intro k h
             rcases h with rfl | rfl | rfl | rfl<;>simp [hji]
         · rw [if_neg (by omega),if_neg (by omega)];exact .undef _
     · intro k j hk
       by_cases hji:j=i
       · subst hji
         have e:Q6 l k j=T6 x k:=by unfold Q6;rw [he]
         simp [hk,t7,z8]
         rw [e]
         rcases a2d x k with ⟨h,E,sz,xs,e⟩ | ⟨h,_⟩
         · rcases h with rfl | rfl | rfl | rfl<;>simp [T6]<;>exact .refl _
         · rw [h];exact .dead _
       · simp [hk,t7,z8,hji]
         by_cases hj2:j < i
         · rw [if_pos hj2,if_pos (by omega),b5w];exact .refl _
         · rw [if_neg (by omega),if_neg (by omega)];exact .dead _
   · have e:i=l.length:=by omega
     subst e
     simp [num,t7,z8]
     refine c49 [(DN 0 0,7,U7 l)] (fun k j=>Q6 l k j) ?_ ?_ ?_ ?_ ?_ ?_
     · intro k j hk
       simp [a6s,P1,hk]
     · simp [ioL,PV.ren,T5,a4z]
     · intro e he
       rw [List.mem_singleton.1 he]
       refine ⟨by simp,by simp,?_⟩
       have:(U7 l).ren (ioL [(DN 0 0,7,U7 l)])=U7 l:=(b03 l (S:=TD (fun k i=>(k == 5 || k == 6 || k == 7 || k == 8))) fun k j h=>by rcases h with rfl | rfl | rfl | rfl<;>simp).1 _ fun x hx=>by
        refine b9f fun e he=>?_
        rw [List.mem_singleton.1 he]
        rintro rfl
        simp at hx
       rw [this]
       simp [t7,z8,U7]
       funext j k
       by_cases hj:j < l.length
       · rw [if_pos hj]
       · rw [if_neg hj];unfold S6;rw [List.getElem?_eq_none (by omega)]
     · simp
     · intro e he
       rw [List.mem_singleton.1 he];simp
     · intro k j hk hl _
       rcases a35 l k j with ⟨_,hj,E,sz,xs,e⟩ | e
       · simp [t7,z8,hk,hj]
         rw [e];rfl
       · rw [e] at hl;cases hl
def a0a (l:List LRule) (j k:Nat):PV:=match l[j]? with
 | some x=>(a1t x j).getD k .undef
 | none=>.undef
def a0q (l:List LRule):MObj:=.prow 181 2 l.length (a0a l)
def a1q (l:List LRule) (k j:Nat):MObj:=match l[j]? with
 | some x=>a2o x k
 | none=>.dead
theorem c89 (x:LRule) (j k:Nat):(∃ r,(a1t x j).getD k .undef=.val r)∨(a1t x j).getD k .undef=.undef∨(∃ k',(k'=9)∧(a1t x j).getD k .undef=.own (DN k' j)):=by
 unfold a1t
 by_cases h:k < 2
 · have:k=0∨k=1:=by omega
   rcases this with rfl | rfl<;>simp
 · rw [List.getD_eq_getElem?_getD,List.getElem?_eq_none (by simp;omega)]
   exact .inr (.inl rfl)
theorem b4w (l:List LRule) (j k:Nat):(∃ r,a0a l j k=.val r)∨a0a l j k=.undef∨(∃ k',(k'=9)∧a0a l j k=.own (DN k' j)):=by
 unfold a0a
 cases l[j]? with
 | none=>exact .inr (.inl rfl)
 | some x=>exact c89 x j k
theorem b8t (l:List LRule) (j k:Nat) (d:Nat→Bool) (h:∀ k',(k'=9)→d (DN k' j)=false):(a0a l j k).kill d=a0a l j k:=by
 rcases b4w l j k with ⟨r,e⟩ | e | ⟨k',hk,e⟩<;>rw [e]<;>simp only [PV.kill]
 rw [h k' hk];rfl
theorem a64 (l:List LRule) (k j:Nat):((k=9)∧j < l.length∧∃ E sz xs,a1q l k j=.row E sz xs)∨a1q l k j=.dead:=by
 unfold a1q
 by_cases h:j < l.length
 · rw [List.getElem?_eq_getElem h]
   rcases a42 l[j] k with ⟨h',e⟩ | ⟨h,_⟩
   · exact .inl ⟨h',h,e⟩
   · exact .inr h
 · rw [List.getElem?_eq_none (by omega)];exact .inr rfl
theorem c17 (l:List LRule) (k j:Nat) (d:Nat→Bool):(a1q l k j).kill d=a1q l k j:=by
 rcases a64 l k j with ⟨_,_,E,sz,xs,e⟩ | e<;>rw [e]<;>rfl
theorem b7m (l:List LRule) {S:Nat→Bool} (h:∀ k j,(k=9)→S (DN k j)=true):(a0q l).onT S:=by
 refine b4s fun j k=>?_
 rcases b4w l j k with ⟨r,e⟩ | e | ⟨k',hk,e⟩
 · exact .inl ⟨r,e⟩
 · exact .inr (.inl e)
 · exact .inr (.inr (.inr ⟨_,e,h k' j hk⟩))
def U5 (l:List LRule) (k i:Nat):MObj:=if k=2∧i=0 then a0q l else a1q l k i
theorem a6c (l:List LRule) (k i:Nat) {S:Nat→Bool} (hS:∀ k j,(k=9)→S (DN k j)=true) (h:(U5 l k i).live=true):((k == 9) || (k == 2 && i == 0))=true∧(U5 l k i).onT S∧∀ cs,U5 l k i≠.box cs:=by
 unfold U5 at h ⊢
 by_cases h0:k=2∧i=0
 · rw [if_pos h0]
   exact ⟨by simp [h0],b7m l hS,fun cs h=>by cases h⟩
 · rw [if_neg h0] at h ⊢
   rcases a64 l k i with ⟨h',_,E,sz,xs,e⟩ | e
   · rw [e]
     refine ⟨?_,T9,fun cs h=>by cases h⟩
     subst h';simp
   · rw [e] at h;cases h
theorem c7k (l:List LRule) (k i:Nat) {S:Nat→Bool} (hS:∀ k j,(k=9)→S (DN k j)=true):(U5 l k i).onT S:=by
 cases hl:(U5 l k i).live with
 | true=>exact (a6c l k i hS hl).2.1
 | false=>cases hm:U5 l k i<;>rw [hm] at hl<;>first | exact Y4 | cases hl
theorem c05 (l:List LRule) (k i:Nat) (d:Nat→Bool) (h:∀ k j,(k=9)→d (DN k j)=false):(U5 l k i).kill d=U5 l k i:=
 (c7k l k i (S:=fun x=>!d x) fun k j hk=>by simp [h k j hk]).2 d fun x hx=>by simpa using hx
theorem c8s (l:List LRule) (hx:bdS 1048576 (X5 1048576) l):Q9 Tryz.prog 71 [.val (.list 2 (l.map l4))] (fun _=>.dead) (fun _=>false) (.own (DN 2 0)) (dyn (U5 l)):=by
 refine Y6 mixed okp71 (fun i h=>by cases h) (fun i h=>by cases h) ?_
 unfold irp71
 rw [b6]
 have hl:l.length≤1048576:=hx.1
 simp [num,G1]
 refine ⟨by omega,by omega,?_⟩
 refine j7 (X:=Nat) (fun i=>⟨t6 [(0,.val (.list 2 (l.map l4))),(3,.own 7),(4,.val (num i))],b05 [(7,.prow 181 2 l.length fun j k=>if j < i then a0a l j k else .undef)] (fun k j=>if j < i then a1q l k j else .dead)⟩) (fun i=>i≤l.length) (fun i=>l.length - i) 0 (Le.mkDN _ _ _ ?_ ?_ ?_) (Nat.zero_le _) ?_
 · simp [upd,num,PV.kill]
 · intro kp hkp
   rw [List.mem_singleton.1 hkp]
   simp [upd]
   refine .rowp _ _ _ _ _ (by simp) fun j k hj hk=>?_
   exact .undef _
 · intro k j hk
   simp
   exact .dead _
 · intro i hi
   simp [num,t7,z8]
   refine f7 (fun h1=>?_) (fun h1=>?_)
   · obtain ⟨x,hxe⟩:∃ x,l[i]=x:=⟨_,rfl⟩
     have he:l[i]?=some x:=by rw [List.getElem?_eq_getElem h1,hxe]
     have hbx:X5 1048576 x:=by rw [← hxe];exact hx.2 _ (List.getElem_mem h1)
     simp [num,h1,he,hxe,t7,z8,l4]
     refine a3p (rs:=[l4 x]) (fun k' i'=>(k' == 9) && i' == i) rfl (d1k x i hbx) ?_ ?_ ?_
     · intro k' i' hk hl
       by_cases h:i'=i
       · subst h
         rw [if_pos rfl] at hl ⊢
         rcases a42 x k' with ⟨h,E,sz,xs,e⟩ | ⟨h,_⟩
         · rw [e];exact ⟨by subst h;simp,T9,fun cs h=>by cases h⟩
         · rw [h] at hl;cases hl
       · rw [if_neg h] at hl;cases hl
     · refine b74 x i fun k h=>?_
       subst h;simp
     simp [num,tx,h1,he,t7,z8,a1t,a2o]
     refine LoopNext.mk (i+1) h1 (by omega) (Le.mkDN _ _ _ ?_ ?_ ?_)
     · simp [num]
       exact wrap_i64 (by omega) (by omega)
     · intro kp hkp
       rw [List.mem_singleton.1 hkp]
       simp [t7,z8]
       refine .prow _ _ _ _ _ fun j k hj hk=>?_
       by_cases hji:j=i
       · subst hji
         have e:a0a l j k=(a1t x j).getD k .undef:=by unfold a0a;rw [he]
         rw [if_pos ⟨rfl,hk⟩,if_pos (by omega),e]
         exact .refl _
       · rw [if_neg (fun h=>hji h.1)]
         by_cases hj2:j < i
         · rw [if_pos hj2,if_pos (by omega),b8t]
           · exact .refl _
           · intro k h
             subst h;simp [hji]
         · rw [if_neg (by omega),if_neg (by omega)];exact .undef _
     · intro k j hk
       by_cases hji:j=i
       · subst hji
         have e:a1q l k j=a2o x k:=by unfold a1q;rw [he]
         simp [hk,t7,z8]
         rw [e]
         rcases a42 x k with ⟨h,E,sz,xs,e⟩ | ⟨h,_⟩
         · subst h;simp [a2o]<;>exact .refl _
         · rw [h];exact .dead _
       · simp [hk,t7,z8,hji]
         by_cases hj2:j < i
         · rw [if_pos hj2,if_pos (by omega),c17];exact .refl _
         · rw [if_neg (by omega),if_neg (by omega)];exact .dead _
   · have e:i=l.length:=by omega
     subst e
     simp [num,t7,z8]
     refine c49 [(DN 2 0,7,a0q l)] (fun k j=>a1q l k j) ?_ ?_ ?_ ?_ ?_ ?_
     · intro k j hk
       simp [a6s,U5,hk]
     · simp [ioL,PV.ren,T5,a4z]
     · intro e he
       rw [List.mem_singleton.1 he]
       refine ⟨by simp,by simp,?_⟩
       have:(a0q l).ren (ioL [(DN 2 0,7,a0q l)])=a0q l:=(b7m l (S:=TD (fun k i=>(k == 9))) fun k j h=>by subst h;simp).1 _ fun x hx=>by
        refine b9f fun e he=>?_
        rw [List.mem_singleton.1 he]
        rintro rfl
        simp at hx
       rw [this]
       simp [t7,z8,a0q]
       funext j k
       by_cases hj:j < l.length
       · rw [if_pos hj]
       · rw [if_neg hj];unfold a0a;rw [List.getElem?_eq_none (by omega)]
     · simp
     · intro e he
       rw [List.mem_singleton.1 he];simp
     · intro k j hk hl _
       rcases a64 l k j with ⟨_,hj,E,sz,xs,e⟩ | e
       · simp [t7,z8,hk,hj]
         rw [e];rfl
       · rw [e] at hl;cases hl
def Z9 (l:List LWire) (j k:Nat):PV:=match l[j]? with
 | some x=>(a05 x j).getD k .undef
 | none=>.undef
def a2p (l:List LWire):MObj:=.prow 96 7 l.length (Z9 l)
def a1p (l:List LWire) (k j:Nat):MObj:=match l[j]? with
 | some x=>a1k x k
 | none=>.dead
theorem c88 (x:LWire) (j k:Nat):(∃ r,(a05 x j).getD k .undef=.val r)∨(a05 x j).getD k .undef=.undef∨(∃ k',(k'=10)∧(a05 x j).getD k .undef=.own (DN k' j)):=by
 unfold a05
 by_cases h:k < 7
 · have:k=0∨k=1∨k=2∨k=3∨k=4∨k=5∨k=6:=by omega
   rcases this with rfl | rfl | rfl | rfl | rfl | rfl | rfl<;>simp
 · rw [List.getD_eq_getElem?_getD,List.getElem?_eq_none (by simp;omega)]
   exact .inr (.inl rfl)
theorem b4v (l:List LWire) (j k:Nat):(∃ r,Z9 l j k=.val r)∨Z9 l j k=.undef∨(∃ k',(k'=10)∧Z9 l j k=.own (DN k' j)):=by
 unfold Z9
 cases l[j]? with
 | none=>exact .inr (.inl rfl)
 | some x=>exact c88 x j k
theorem b8s (l:List LWire) (j k:Nat) (d:Nat→Bool) (h:∀ k',(k'=10)→d (DN k' j)=false):(Z9 l j k).kill d=Z9 l j k:=by
 rcases b4v l j k with ⟨r,e⟩ | e | ⟨k',hk,e⟩<;>rw [e]<;>simp only [PV.kill]
 rw [h k' hk];rfl
theorem a63 (l:List LWire) (k j:Nat):((k=10)∧j < l.length∧∃ E sz xs,a1p l k j=.row E sz xs)∨a1p l k j=.dead:=by
 unfold a1p
 by_cases h:j < l.length
 · rw [List.getElem?_eq_getElem h]
   rcases a41 l[j] k with ⟨h',e⟩ | ⟨h,_⟩
   · exact .inl ⟨h',h,e⟩
   · exact .inr h
 · rw [List.getElem?_eq_none (by omega)];exact .inr rfl
theorem c16 (l:List LWire) (k j:Nat) (d:Nat→Bool):(a1p l k j).kill d=a1p l k j:=by
 rcases a63 l k j with ⟨_,_,E,sz,xs,e⟩ | e<;>rw [e]<;>rfl
theorem b7l (l:List LWire) {S:Nat→Bool} (h:∀ k j,(k=10)→S (DN k j)=true):(a2p l).onT S:=by
 refine b4s fun j k=>?_
 rcases b4v l j k with ⟨r,e⟩ | e | ⟨k',hk,e⟩
 · exact .inl ⟨r,e⟩
 · exact .inr (.inl e)
 · exact .inr (.inr (.inr ⟨_,e,h k' j hk⟩))
def W9 (l:List LWire) (k i:Nat):MObj:=if k=4∧i=0 then a2p l else a1p l k i
theorem a88 (l:List LWire) (k i:Nat) {S:Nat→Bool} (hS:∀ k j,(k=10)→S (DN k j)=true) (h:(W9 l k i).live=true):((k == 10) || (k == 4 && i == 0))=true∧(W9 l k i).onT S∧∀ cs,W9 l k i≠.box cs:=by
 unfold W9 at h ⊢
 by_cases h0:k=4∧i=0
 · rw [if_pos h0]
   exact ⟨by simp [h0],b7l l hS,fun cs h=>by cases h⟩
 · rw [if_neg h0] at h ⊢
   rcases a63 l k i with ⟨h',_,E,sz,xs,e⟩ | e
   · rw [e]
     refine ⟨?_,T9,fun cs h=>by cases h⟩
     subst h';simp
   · rw [e] at h;cases h
theorem b14 (l:List LWire) (k i:Nat) {S:Nat→Bool} (hS:∀ k j,(k=10)→S (DN k j)=true):(W9 l k i).onT S:=by
 cases hl:(W9 l k i).live with
 | true=>exact (a88 l k i hS hl).2.1
 | false=>cases hm:W9 l k i<;>rw [hm] at hl<;>first | exact Y4 | cases hl
theorem a7x (l:List LWire) (k i:Nat) (d:Nat→Bool) (h:∀ k j,(k=10)→d (DN k j)=false):(W9 l k i).kill d=W9 l k i:=
 (b14 l k i (S:=fun x=>!d x) fun k j hk=>by simp [h k j hk]).2 d fun x hx=>by simpa using hx
theorem c8r (l:List LWire) (hx:bdS 1048576 (Z4 1048576) l):Q9 Tryz.prog 53 [.val (.list 7 (l.map H5))] (fun _=>.dead) (fun _=>false) (.own (DN 4 0)) (dyn (W9 l)):=by
 refine Y6 mixed okp53 (fun i h=>by cases h) (fun i h=>by cases h) ?_
 unfold irp53
 rw [b6]
 have hl:l.length≤1048576:=hx.1
 simp [num,G1]
 refine ⟨by omega,by omega,?_⟩
 refine j7 (X:=Nat) (fun i=>⟨t6 [(0,.val (.list 7 (l.map H5))),(3,.own 7),(4,.val (num i))],b05 [(7,.prow 96 7 l.length fun j k=>if j < i then Z9 l j k else .undef)] (fun k j=>if j < i then a1p l k j else .dead)⟩) (fun i=>i≤l.length) (fun i=>l.length - i) 0 (Le.mkDN _ _ _ ?_ ?_ ?_) (Nat.zero_le _) ?_
 · simp [upd,num,PV.kill]
 · intro kp hkp
   rw [List.mem_singleton.1 hkp]
   simp [upd]
   refine .rowp _ _ _ _ _ (by simp) fun j k hj hk=>?_
   exact .undef _
 · intro k j hk
   simp
   exact .dead _
 · intro i hi
   simp [num,t7,z8]
   refine f7 (fun h1=>?_) (fun h1=>?_)
   · obtain ⟨x,hxe⟩:∃ x,l[i]=x:=⟨_,rfl⟩
     have he:l[i]?=some x:=by rw [List.getElem?_eq_getElem h1,hxe]
     have hbx:Z4 1048576 x:=by rw [← hxe];exact hx.2 _ (List.getElem_mem h1)
     simp [num,h1,he,hxe,t7,z8,H5]
     refine a3p (rs:=[H5 x]) (fun k' i'=>(k' == 10) && i' == i) rfl (d1j x i hbx) ?_ ?_ ?_
     · intro k' i' hk hl
       by_cases h:i'=i
       · subst h
         rw [if_pos rfl] at hl ⊢
         rcases a41 x k' with ⟨h,E,sz,xs,e⟩ | ⟨h,_⟩
         · rw [e];exact ⟨by subst h;simp,T9,fun cs h=>by cases h⟩
         · rw [h] at hl;cases hl
       · rw [if_neg h] at hl;cases hl
     · refine b73 x i fun k h=>?_
       subst h;simp
     simp [num,tx,h1,he,t7,z8,a05,a1k]
     refine LoopNext.mk (i+1) h1 (by omega) (Le.mkDN _ _ _ ?_ ?_ ?_)
     · simp [num]
       exact wrap_i64 (by omega) (by omega)
     · intro kp hkp
       rw [List.mem_singleton.1 hkp]
       simp [t7,z8]
       refine .prow _ _ _ _ _ fun j k hj hk=>?_
       by_cases hji:j=i
       · subst hji
         have e:Z9 l j k=(a05 x j).getD k .undef:=by unfold Z9;rw [he]
         rw [if_pos ⟨rfl,hk⟩,if_pos (by omega),e]
         exact .refl _
       · rw [if_neg (fun h=>hji h.1)]
         by_cases hj2:j < i
         · rw [if_pos hj2,if_pos (by omega),b8s]
           · exact .refl _
           · intro k h
             subst h;simp [hji]
         · rw [if_neg (by omega),if_neg (by omega)];exact .undef _
     · intro k j hk
       by_cases hji:j=i
       · subst hji
         have e:a1p l k j=a1k x k:=by unfold a1p;rw [he]
         simp [hk,t7,z8]
         rw [e]
         rcases a41 x k with ⟨h,E,sz,xs,e⟩ | ⟨h,_⟩
         · subst h;simp [a1k]<;>exact .refl _
         · rw [h];exact .dead _
       · simp [hk,t7,z8,hji]
         by_cases hj2:j < i
         · rw [if_pos hj2,if_pos (by omega),c16];exact .refl _
         · rw [if_neg (by omega),if_neg (by omega)];exact .dead _
   · have e:i=l.length:=by omega
     subst e
     simp [num,t7,z8]
     refine c49 [(DN 4 0,7,a2p l)] (fun k j=>a1p l k j) ?_ ?_ ?_ ?_ ?_ ?_
     · intro k j hk
       simp [a6s,W9,hk]
     · simp [ioL,PV.ren,T5,a4z]
     · intro e he
       rw [List.mem_singleton.1 he]
       refine ⟨by simp,by simp,?_⟩
       have:(a2p l).ren (ioL [(DN 4 0,7,a2p l)])=a2p l:=(b7l l (S:=TD (fun k i=>(k == 10))) fun k j h=>by subst h;simp).1 _ fun x hx=>by
        refine b9f fun e he=>?_
        rw [List.mem_singleton.1 he]
        rintro rfl
        simp at hx
       rw [this]
       simp [t7,z8,a2p]
       funext j k
       by_cases hj:j < l.length
       · rw [if_pos hj]
       · rw [if_neg hj];unfold Z9;rw [List.getElem?_eq_none (by omega)]
     · simp
     · intro e he
       rw [List.mem_singleton.1 he];simp
     · intro k j hk hl _
       rcases a63 l k j with ⟨_,hj,E,sz,xs,e⟩ | e
       · simp [t7,z8,hk,hj]
         rw [e];rfl
       · rw [e] at hl;cases hl
end Go.Proofs
end
section
namespace Go.Proofs
open Go.PW Go.KP
attribute [local simp] RV.cells RV.one PV.cells PV.solid PV.one G1 i6 L8 K7 RV.ofCells elems PV.killL
variable [GF]
attribute [local simp] a6k b1q b7o b7p b7n b4y a3z b2g a74 b6l b0r b2o a8t
def a3k (p:LPolicy):List PV:=[.val (tx p.reportTo),.own (DN 1 0),.own (DN 2 0)]
def O9 (p:LPolicy) (k i:Nat):MObj:=if k=1∧i=0 then .row 9 1 (p.uris.map tx) else U5 p.rules k i
theorem a5l (p:LPolicy) (k i:Nat) {S:Nat→Bool} (hS:∀ k j,(k=9)→S (DN k j)=true) (h:(O9 p k i).live=true):(k == 1 && i == 0 || k == 9 || k == 2 && i == 0)=true∧(O9 p k i).onT S∧∀ cs,O9 p k i≠.box cs:=by
 unfold O9 at h ⊢
 by_cases h0:k=1∧i=0
 · rw [if_pos h0]
   exact ⟨by simp [h0],T9,fun cs h=>by cases h⟩
 · rw [if_neg h0] at h ⊢
   obtain ⟨h1,h2,h3⟩:=a6c p.rules k i hS h
   refine ⟨?_,h2,h3⟩
   simp only [Bool.or_eq_true] at h1 ⊢
   rcases h1 with h1 | h1
   · exact .inl (.inr h1)
   · exact .inr h1
theorem a5k (p:LPolicy) (k i:Nat) {S:Nat→Bool} (hS:∀ k j,(k=9)→S (DN k j)=true):(O9 p k i).onT S:=by
 cases hl:(O9 p k i).live with
 | true=>exact (a5l p k i hS hl).2.1
 | false=>cases hm:O9 p k i<;>rw [hm] at hl<;>first | exact Y4 | cases hl
theorem a32 (p:LPolicy) (k i:Nat) (d:Nat→Bool) (h:∀ k j,(k=9)→d (DN k j)=false):(O9 p k i).kill d=O9 p k i:=
 (a5k p k i (S:=fun x=>!d x) fun k j hk=>by simp [h k j hk]).2 d fun x hx=>by simpa using hx
theorem c5d (p:LPolicy) (hx:a0h 1048576 p):Q9 Tryz.prog 22 [.val (w8 p)] (fun _=>.dead) (fun _=>false) (.agg (a3k p)) (dyn (O9 p)):=by
 refine Y6 mixed ok22 (fun i h=>by cases h) (fun i h=>by cases h) ?_
 unfold ir22
 rw [b6]
 obtain ⟨b0,b1,b2⟩:=hx
 simp [w8,tx,num]
 refine a3p (rs:=[.list 1 (p.uris.map tx)]) (fun k i=>k == 1 && i == 0) rfl (a8j p.uris 1 0 (by omega) b1) ?_ ?_ ?_
 · intro k i hk hl
   by_cases h:k=1∧i=0
   · rw [if_pos h]
     exact ⟨by simp [h],T9,fun cs h=>by cases h⟩
   · rw [if_neg h] at hl;cases hl
 · exact O6 (by simp)
 simp [w8,tx,num]
 refine a3p (rs:=[.list 2 (p.rules.map l4)]) (fun k i=>k == 9 || k == 2 && i == 0) rfl (c8s p.rules b2) (fun k i hk hl=>a6c p.rules k i (fun k j h=>by subst h;simp) hl) (O6 (by simp)) ?_
 simp [w8,tx,num,U5,a0q]
 refine b0f _ ?_ ?_ ?_ ?_
 · simp [a3k,tx,num,T5,a4z]
 · intro k i hk hl
   by_cases h1:k=1∧i=0
   · obtain ⟨rfl,rfl⟩:=h1;simp [O9]
   · have e:O9 p k i=U5 p.rules k i:=by unfold O9;rw [if_neg h1]
     rw [e] at hl ⊢
     have h2:=(a6c p.rules k i (S:=fun _=>true) (fun _ _ _=>rfl) hl).1
     simp at h2
     simp [hk,h2]
     try simp [U5,a0q]
 · exact a2e fun q hq=>by
    simp only [a3k,List.mem_cons,List.not_mem_nil,or_false] at hq
    rcases hq with rfl | rfl | rfl
    · exact S5
    · exact O6 (by simp)
    · exact O6 (by simp)
 · intro k i hk
   exact a5k p k i fun k j h=>by simp
def a31 (p:LPipe):List PV:=[.own (DN 0 0),.val (tx p.policy.reportTo),.own (DN 1 0),.own (DN 2 0),.val (num p.now),.val (num p.next),.own (DN 3 0),.own (DN 4 0)]
def R0 (p:LPipe) (k i:Nat):MObj:=
 if k=3∧i=0 then .row 157 3 (p.log.map G0) else if k=1∧i=0∨k=2∧i=0∨k=9 then O9 p.policy k i else if k=4∧i=0∨k=10 then W9 p.wires k i else P1 p.channels k i
def a0n (k i:Nat):Bool:=decide (k < 5) && i == 0 || decide (5≤k) && decide (k < 11)
theorem c2e (p:LPipe) (hx:a1c 1048576 p):Q9 Tryz.prog 11 [.val (L4 p)] (fun _=>.dead) (fun _=>false) (.agg (a31 p)) (dyn (R0 p)):=by
 refine Y6 mixed ok11 (fun i h=>by cases h) (fun i h=>by cases h) ?_
 unfold ir11
 rw [b6]
 obtain ⟨b0,b1,b2,b3⟩:=hx
 simp [L4,tx,num]
 refine a3p (rs:=[.list 6 (p.channels.map j5)]) (fun k i=>(k == 5 || k == 6 || k == 7 || k == 8) || k == 0 && i == 0) rfl (b9p p.channels b0) (fun k i hk hl=>a1z p.channels k i (fun k j h=>by rcases h with rfl | rfl | rfl | rfl<;>simp) hl) (O6 (by simp)) ?_
 simp [tx,num,P1,U7]
 refine a3p (rs:=[w8 p.policy]) (fun k i=>k == 1 && i == 0 || k == 9 || k == 2 && i == 0) rfl (c5d p.policy b1) (fun k i hk hl=>a5l p.policy k i (fun k j h=>by subst h;simp) hl) ?_ ?_
 · exact a2e fun q hq=>by
    simp only [a3k,List.mem_cons,List.not_mem_nil,or_false] at hq
    rcases hq with rfl | rfl | rfl
    · exact S5
    · exact O6 (by simp)
    · exact O6 (by simp)
 simp [tx,num,O9,U5,a0q,a3k]
 refine a3p (rs:=[.list 3 (p.log.map G0)]) (fun k i=>k == 3 && i == 0) rfl (c5e p.log 3 0 (by omega) b2) ?_ ?_ ?_
 · intro k i hk hl
   by_cases h:k=3∧i=0
   · rw [if_pos h]
     exact ⟨by simp [h],T9,fun cs h=>by cases h⟩
   · rw [if_neg h] at hl;cases hl
 · exact O6 (by simp)
 simp [tx,num]
 refine a3p (rs:=[.list 7 (p.wires.map H5)]) (fun k i=>(k == 10) || k == 4 && i == 0) rfl (c8r p.wires b3) (fun k i hk hl=>a88 p.wires k i (fun k j h=>by subst h;simp) hl) (O6 (by simp)) ?_
 simp [tx,num,W9,a2p,O9,U5,a0q,P1,U7]
 refine b0f _ ?_ ?_ ?_ ?_
 · simp [a31,tx,num,T5,a4z]
 · intro k i hk hl
   have c1:∀ (k j:Nat),(k=5∨k=6∨k=7∨k=8)→nK (fun k i=>(k == 10) || k == 4 && i == 0) (DN k j)=false:=fun k j h=>by rcases h with rfl | rfl | rfl | rfl<;>simp
   have c2:∀ (k j:Nat),(k=5∨k=6∨k=7∨k=8)→nK (fun k i=>k == 3 && i == 0) (DN k j)=false:=fun k j h=>by rcases h with rfl | rfl | rfl | rfl<;>simp
   have c3:∀ (k j:Nat),(k=5∨k=6∨k=7∨k=8)→nK (fun k i=>k == 1 && i == 0 || k == 9 || k == 2 && i == 0) (DN k j)=false:=fun k j h=>by rcases h with rfl | rfl | rfl | rfl<;>simp
   have r1:∀ (k j:Nat),k=9→nK (fun k i=>(k == 10) || k == 4 && i == 0) (DN k j)=false:=fun k j h=>by subst h;simp
   have r2:∀ (k j:Nat),k=9→nK (fun k i=>k == 3 && i == 0) (DN k j)=false:=fun k j h=>by subst h;simp
   by_cases h1:k=3∧i=0
   · obtain ⟨rfl,rfl⟩:=h1;simp [R0]
   by_cases h2:k=1∧i=0∨k=2∧i=0∨k=9
   · have e:R0 p k i=O9 p.policy k i:=by unfold R0;rw [if_neg h1,if_pos h2]
     rw [e] at hl ⊢
     have h3:¬ (k=4∧i=0)∧¬ k=10∧¬ (k=3∧i=0):=by omega
     have h4:(k=1∧i=0∨k=9)∨k=2∧i=0:=by omega
     simp [hk,h3,h4]
     rw [a32 _ _ _ _ r2,a32 _ _ _ _ r1]
   by_cases h3:k=4∧i=0∨k=10
   · have e:R0 p k i=W9 p.wires k i:=by unfold R0;rw [if_neg h1,if_neg h2,if_pos h3]
     rw [e] at hl ⊢
     have h4:k=10∨k=4∧i=0:=by omega
     simp [hk,h4]
   · have e:R0 p k i=P1 p.channels k i:=by unfold R0;rw [if_neg h1,if_neg h2,if_neg h3]
     rw [e] at hl ⊢
     have h5:=(a1z p.channels k i (S:=fun _=>true) (fun _ _ _=>rfl) hl).1
     simp at h5
     have h4:¬ (k=10∨k=4∧i=0):=by omega
     have h6:¬ ((k=1∧i=0∨k=9)∨k=2∧i=0):=by omega
     simp only [x9,F5,y4,F3,y5,q7,y0,F4,l6,A5,G6,G7,j6,p5,p6,l0,y6,p9,l2,F2,x8,p8,p7,D3,D4,a0u,a0v,Option.getD_some,Option.getD_none,C0,t8,o5,D0,o4,n7,D2,n8,D1,C9,C8,H1,w6,o2,C6,v8,o1,C5,B8,C7,w5,C3,n6,v7,C4,H3,H2,B9,C1,n9,C2,w7,o3,A8,l8,B7,B6,B5,G8,u9,m8,B3,u6,l9,B2,A6,B4,u7,B0,l7,u5,B1,H0,G9,A7,u4,n5,A9,v6,n0,J1,J0,K4,J2,J6,J4,J3,K3,J5,J7,J8,J9,K2,y9,y8,y7,M0,M1,z7,F6,u0,D8,x1,K6,q8,Q1,M4,L6,N6,N8,N7,Q2,Q3,I3,I5,I4,I6,I7,N3,x3,N2,D9,E1,E2,x4,a0x,E9,x7,P9,Q0,H4,M2,M3,Option.map_some,Option.map_none,E3,x5,w9,o6,D6,D7,H7,H6,O3,O2,I9,F0,F1,I8,N9,O0,H9,o8,I0,o7,M7,E8,E7,l1,N5,O1,I2,M9,N1,N0,x2,A2,A4,A3,k6,N4,Q5,Q4,M5,I1,U3,M6,o9,E5,E6,x6,E4,k9,u2,k8,u3,k7,K5,O4,O5,z1,z6,F8,F7,D5,z7,b6l,b0r,b4y hk]
     simp [hk,h1,h4,h6,h5]
     rw [a3a _ _ _ _ c3,a3a _ _ _ _ c2,a3a _ _ _ _ c1]
 · exact a2e fun q hq=>by
    simp only [a31,List.mem_cons,List.not_mem_nil,or_false] at hq
    rcases hq with rfl | rfl | rfl | rfl | rfl | rfl | rfl | rfl
    · exact O6 (by simp)
    · exact S5
    · exact O6 (by simp)
    · exact O6 (by simp)
    · exact S5
    · exact S5
    · exact O6 (by simp)
    · exact O6 (by simp)
 · intro k i hk
   unfold R0
   split
   · exact T9
   split
   · exact a5k p.policy k i fun k j h=>by simp
   split
   · exact b14 p.wires k i fun k j h=>by simp
   · exact a6u p.channels k i fun k j h=>by simp
end Go.Proofs
end
section
namespace Go.Proofs
open Go.PW Go.KP
attribute [local simp] RV.cells RV.one PV.cells PV.solid PV.one G1 i6 L8 K7 RV.ofCells elems PV.killL
variable [GF]
attribute [local simp] a6k b1q b7o b7p b7n b4y a3z b2g a74 b6l b0r b2o a8t
theorem c2h (l:List LRule) (k:Nat) (hx:bdS 1048576 (X5 1048576) l) (hk:k+G3 Y8 l < 8388608):Q9 Tryz.prog 78 [.own (DN 2 0),.val (num k)] (dyn (U5 l)) (fun _=>false) (.val (num ((k+G3 Y8 l:Nat):Int))) (fun _=>.dead):=by
 refine Y6 mixed okp78 (fun i h=>a8h h) (fun i h=>by cases h) ?_
 unfold irp78
 rw [b6]
 have hl:l.length≤1048576:=hx.1
 simp [num]
 refine j7 (X:=Nat) (fun i=>⟨t6 [(0,.own (DN 2 0)),(1,.val (num ((k+G3 Y8 (l.take i):Nat):Int))),(5,.val (num i))],b05 [] (fun k' j=>if k'=2∧j=0 then .prow 181 2 l.length (fun j k=>if i≤j then a0a l j k else .undef) else if i≤j then a1q l k' j else .dead)⟩) (fun i=>i≤l.length) (fun i=>l.length - i) 0 (Le.mkDN _ _ _ ?_ ?_ ?_) (Nat.zero_le _) ?_
 · simp [upd,num,PV.kill,G3]
 · intro kp hkp;cases hkp
 · intro k' j hk'
   simp [hk',U5,a0q]
   exact .refl _
 · intro i hi
   unfold irp78_l6
   by_cases h1:i < l.length
   · obtain ⟨x,hxe⟩:∃ x,l[i]=x:=⟨_,rfl⟩
     have he:l[i]?=some x:=by rw [List.getElem?_eq_getElem h1,hxe]
     have hbx:X5 1048576 x:=by rw [← hxe];exact hx.2 _ (List.getElem_mem h1)
     have ho:∀ k,a0a l i k=(a1t x i).getD k .undef:=fun k=>by unfold a0a;rw [he]
     have hf:∀ k,a1q l k i=a2o x k:=fun k=>by unfold a1q;rw [he]
     have hst:G3 Y8 (l.take (i+1))=G3 Y8 (l.take i)+Y8 x:=by rw [a09 _ h1,hxe]
     have hle:=a33 (f:=Y8) l (i+1)
     obtain ⟨m0,hm0⟩:∃ m,k+G3 Y8 (l.take i)=m:=⟨_,rfl⟩
     have q1:x.words.length≤1048576:=hbx.2.1
     obtain ⟨m1,hm1⟩:∃ m,m0+1=m:=⟨_,rfl⟩
     obtain ⟨m2,hm2⟩:∃ m,m1+1*x.words.length=m:=⟨_,rfl⟩
     have hcx:Y8 x=1+x.words.length:=rfl
     have hlast:k+G3 Y8 (l.take (i+1))=m2:=by omega
     have s0:IntKind.i64.wrap ((m0:Int)+1)=(m1:Int):=by rw [wrap_i64 (by omega) (by omega)];omega
     have hk0:=a04 m0 (by omega)
     have hk1:=a5z x.words m1 (by omega) q1
     rw [hm2] at hk1
     rw [hm0]
     simp [num,tx,h1,ho,hf,t7,z8,a1t,a2o,s0]
     refine b7 rfl rfl (.inl rfl) hk0 ?_
     simp [num,tx,h1,ho,hf,t7,z8,a1t,a2o,s0]
     refine b8g (by simp [PV.plain1]) rfl rfl rfl hk1 rfl ?_
     simp [num,tx,h1,ho,hf,t7,z8,a1t,a2o,s0]
     refine LoopNext.mk (i+1) h1 (by omega) (Le.mkDN _ _ _ ?_ ?_ ?_)
     · simp only [hlast]
       simp [num,s0]
       exact wrap_i64 (by omega) (by omega)
     · intro kp hkp;cases hkp
     · intro k' j hk'
       by_cases h0:k'=2∧j=0
       · obtain ⟨rfl,rfl⟩:=h0
         simp [t7,z8]
         refine .prow _ _ _ _ _ fun j k hj hk=>?_
         by_cases hji:j=i
         · rw [if_neg (show ¬ i+1≤j by omega)];exact .undef _
         · simp [hji]
           by_cases hj2:i≤j
           · rw [if_pos hj2,if_pos (by omega)];exact .refl _
           · rw [if_neg hj2,if_neg (by omega)];exact .undef _
       · rw [if_neg h0]
         by_cases hji:j=i
         · rw [if_neg (show ¬ i+1≤j by omega)];exact .dead _
         · simp [hk',t7,z8,hji,h0]
           by_cases hj2:i≤j
           · rw [if_pos hj2,if_pos (by omega)];exact .refl _
           · rw [if_neg hj2,if_neg (by omega)];exact .refl _
   · have e:i=l.length:=by omega
     subst e
     simp [num,t7,z8]
     refine b5s ?_
     simp [T5,a4z]
theorem c9x {M:Nat→MObj} (l:List LRule) (h0:M (DN 2 0)=a0q l) (h:∀ k j,k < 16→(a1q l k j).live=true→M (DN k j)=a1q l k j):Res M (.own (DN 2 0)) (.list 2 (l.map l4)):=by
 refine .prow _ _ _ _ (a0a l) _ h0 (by simp) (fun x hx=>?_) fun j k hj hk=>?_
 · obtain ⟨y,_,rfl⟩:=List.mem_map.1 hx
   rfl
 have he:l[j]?=some l[j]:=List.getElem?_eq_getElem hj
 have e1:a0a l j k=(a1t l[j] j).getD k .undef:=by unfold a0a;rw [he]
 have e2:(l.map l4).getD j .nilptr=l4 l[j]:=by simp [List.getD_eq_getElem?_getD,he]
 rw [e1,e2]
 generalize l[j]=x at he ⊢
 have:k=0∨k=1:=by omega
 rcases this with rfl | rfl
 · exact .val _
 · exact .row _ 9 _ _ (by rw [h 9 j (by omega) (by unfold a1q;rw [he];rfl)];unfold a1q;rw [he];rfl)
theorem c2g (l:List LWire) (k:Nat) (hx:bdS 1048576 (Z4 1048576) l) (hk:k+G3 a0p l < 8388608):Q9 Tryz.prog 65 [.own (DN 4 0),.val (num k)] (dyn (W9 l)) (fun _=>false) (.val (num ((k+G3 a0p l:Nat):Int))) (fun _=>.dead):=by
 refine Y6 mixed okp65 (fun i h=>a8h h) (fun i h=>by cases h) ?_
 unfold irp65
 rw [b6]
 have hl:l.length≤1048576:=hx.1
 simp [num]
 refine j7 (X:=Nat) (fun i=>⟨t6 [(0,.own (DN 4 0)),(1,.val (num ((k+G3 a0p (l.take i):Nat):Int))),(5,.val (num i))],b05 [] (fun k' j=>if k'=4∧j=0 then .prow 96 7 l.length (fun j k=>if i≤j then Z9 l j k else .undef) else if i≤j then a1p l k' j else .dead)⟩) (fun i=>i≤l.length) (fun i=>l.length - i) 0 (Le.mkDN _ _ _ ?_ ?_ ?_) (Nat.zero_le _) ?_
 · simp [upd,num,PV.kill,G3]
 · intro kp hkp;cases hkp
 · intro k' j hk'
   simp [hk',W9,a2p]
   exact .refl _
 · intro i hi
   unfold irp65_l6
   by_cases h1:i < l.length
   · obtain ⟨x,hxe⟩:∃ x,l[i]=x:=⟨_,rfl⟩
     have he:l[i]?=some x:=by rw [List.getElem?_eq_getElem h1,hxe]
     have hbx:Z4 1048576 x:=by rw [← hxe];exact hx.2 _ (List.getElem_mem h1)
     have ho:∀ k,Z9 l i k=(a05 x i).getD k .undef:=fun k=>by unfold Z9;rw [he]
     have hf:∀ k,a1p l k i=a1k x k:=fun k=>by unfold a1p;rw [he]
     have hst:G3 a0p (l.take (i+1))=G3 a0p (l.take i)+a0p x:=by rw [a09 _ h1,hxe]
     have hle:=a33 (f:=a0p) l (i+1)
     obtain ⟨m0,hm0⟩:∃ m,k+G3 a0p (l.take i)=m:=⟨_,rfl⟩
     have q4:x.ids.length≤1048576:=hbx.2.2.1
     obtain ⟨m1,hm1⟩:∃ m,m0+1=m:=⟨_,rfl⟩
     obtain ⟨m2,hm2⟩:∃ m,m1+1=m:=⟨_,rfl⟩
     obtain ⟨m3,hm3⟩:∃ m,m2+1=m:=⟨_,rfl⟩
     obtain ⟨m4,hm4⟩:∃ m,m3+1=m:=⟨_,rfl⟩
     obtain ⟨m5,hm5⟩:∃ m,m4+1*x.ids.length=m:=⟨_,rfl⟩
     obtain ⟨m6,hm6⟩:∃ m,m5+1=m:=⟨_,rfl⟩
     obtain ⟨m7,hm7⟩:∃ m,m6+1=m:=⟨_,rfl⟩
     have hcx:a0p x=6+x.ids.length:=rfl
     have hlast:k+G3 a0p (l.take (i+1))=m7:=by omega
     have s0:IntKind.i64.wrap ((m0:Int)+1)=(m1:Int):=by rw [wrap_i64 (by omega) (by omega)];omega
     have s1:IntKind.i64.wrap ((m1:Int)+1)=(m2:Int):=by rw [wrap_i64 (by omega) (by omega)];omega
     have s2:IntKind.i64.wrap ((m2:Int)+1)=(m3:Int):=by rw [wrap_i64 (by omega) (by omega)];omega
     have hk2:=a04 m2 (by omega)
     have s3:IntKind.i64.wrap ((m3:Int)+1)=(m4:Int):=by rw [wrap_i64 (by omega) (by omega)];omega
     have hk3:=a04 m3 (by omega)
     have hk4:=b5k x.ids m4 (by omega) q4
     rw [hm5] at hk4
     have s5:IntKind.i64.wrap ((m5:Int)+1)=(m6:Int):=by rw [wrap_i64 (by omega) (by omega)];omega
     have hk5:=a04 m5 (by omega)
     have s6:IntKind.i64.wrap ((m6:Int)+1)=(m7:Int):=by rw [wrap_i64 (by omega) (by omega)];omega
     rw [hm0]
     simp [num,tx,h1,ho,hf,t7,z8,a05,a1k,s0,s1,s2,s3,s5,s6]
     refine b7 rfl rfl (.inl rfl) hk2 ?_
     simp [num,tx,h1,ho,hf,t7,z8,a05,a1k,s0,s1,s2,s3,s5,s6]
     refine b7 rfl rfl (.inl rfl) hk3 ?_
     simp [num,tx,h1,ho,hf,t7,z8,a05,a1k,s0,s1,s2,s3,s5,s6]
     refine b8g (by simp [PV.plain1]) rfl rfl rfl hk4 rfl ?_
     simp [num,tx,h1,ho,hf,t7,z8,a05,a1k,s0,s1,s2,s3,s5,s6]
     refine b7 rfl rfl (.inl rfl) hk5 ?_
     simp [num,tx,h1,ho,hf,t7,z8,a05,a1k,s0,s1,s2,s3,s5,s6]
     refine LoopNext.mk (i+1) h1 (by omega) (Le.mkDN _ _ _ ?_ ?_ ?_)
     · simp only [hlast]
       simp [num,s0,s1,s2,s3,s5,s6]
       exact wrap_i64 (by omega) (by omega)
     · intro kp hkp;cases hkp
     · intro k' j hk'
       by_cases h0:k'=4∧j=0
       · obtain ⟨rfl,rfl⟩:=h0
         simp [t7,z8]
         refine .prow _ _ _ _ _ fun j k hj hk=>?_
         by_cases hji:j=i
         · rw [if_neg (show ¬ i+1≤j by omega)];exact .undef _
         · simp [hji]
           by_cases hj2:i≤j
           · rw [if_pos hj2,if_pos (by omega)];exact .refl _
           · rw [if_neg hj2,if_neg (by omega)];exact .undef _
       · rw [if_neg h0]
         by_cases hji:j=i
         · rw [if_neg (show ¬ i+1≤j by omega)];exact .dead _
         · simp [hk',t7,z8,hji,h0]
           by_cases hj2:i≤j
           · rw [if_pos hj2,if_pos (by omega)];exact .refl _
           · rw [if_neg hj2,if_neg (by omega)];exact .refl _
   · have e:i=l.length:=by omega
     subst e
     simp [num,t7,z8]
     refine b5s ?_
     simp [T5,a4z]
theorem c9w {M:Nat→MObj} (l:List LWire) (h0:M (DN 4 0)=a2p l) (h:∀ k j,k < 16→(a1p l k j).live=true→M (DN k j)=a1p l k j):Res M (.own (DN 4 0)) (.list 7 (l.map H5)):=by
 refine .prow _ _ _ _ (Z9 l) _ h0 (by simp) (fun x hx=>?_) fun j k hj hk=>?_
 · obtain ⟨y,_,rfl⟩:=List.mem_map.1 hx
   rfl
 have he:l[j]?=some l[j]:=List.getElem?_eq_getElem hj
 have e1:Z9 l j k=(a05 l[j] j).getD k .undef:=by unfold Z9;rw [he]
 have e2:(l.map H5).getD j .nilptr=H5 l[j]:=by simp [List.getD_eq_getElem?_getD,he]
 rw [e1,e2]
 generalize l[j]=x at he ⊢
 have:k=0∨k=1∨k=2∨k=3∨k=4∨k=5∨k=6:=by omega
 rcases this with rfl | rfl | rfl | rfl | rfl | rfl | rfl
 · exact .val _
 · exact .val _
 · exact .val _
 · exact .val _
 · exact .row _ 3 _ _ (by rw [h 10 j (by omega) (by unfold a1p;rw [he];rfl)];unfold a1p;rw [he];rfl)
 · exact .val _
 · exact .val _
theorem b50 (l:List LChannel) (k:Nat) (hx:bdS 1048576 (Q8 1048576) l) (hk:k+G3 T1 l < 8388608):Q9 Tryz.prog 63 [.own (DN 0 0),.val (num k)] (dyn (P1 l)) (fun _=>false) (.val (num ((k+G3 T1 l:Nat):Int))) (fun _=>.dead):=by
 refine Y6 mixed okp63 (fun i h=>a8h h) (fun i h=>by cases h) ?_
 unfold irp63
 rw [b6]
 have hl:l.length≤1048576:=hx.1
 simp [num]
 refine j7 (X:=Nat) (fun i=>⟨t6 [(0,.own (DN 0 0)),(1,.val (num ((k+G3 T1 (l.take i):Nat):Int))),(5,.val (num i))],b05 [] (fun k' j=>if k'=0∧j=0 then .prow 154 6 l.length (fun j k=>if i≤j then S6 l j k else .undef) else if i≤j then Q6 l k' j else .dead)⟩) (fun i=>i≤l.length) (fun i=>l.length - i) 0 (Le.mkDN _ _ _ ?_ ?_ ?_) (Nat.zero_le _) ?_
 · simp [upd,num,PV.kill,G3]
 · intro kp hkp;cases hkp
 · intro k' j hk'
   simp [hk',P1,U7]
   exact .refl _
 · intro i hi
   unfold irp63_l6
   by_cases h1:i < l.length
   · obtain ⟨x,hxe⟩:∃ x,l[i]=x:=⟨_,rfl⟩
     have he:l[i]?=some x:=by rw [List.getElem?_eq_getElem h1,hxe]
     have hbx:Q8 1048576 x:=by rw [← hxe];exact hx.2 _ (List.getElem_mem h1)
     have ho:∀ k,S6 l i k=(S4 x i).getD k .undef:=fun k=>by unfold S6;rw [he]
     have hf:∀ k,Q6 l k i=T6 x k:=fun k=>by unfold Q6;rw [he]
     have hst:G3 T1 (l.take (i+1))=G3 T1 (l.take i)+T1 x:=by rw [a09 _ h1,hxe]
     have hle:=a33 (f:=T1) l (i+1)
     obtain ⟨m0,hm0⟩:∃ m,k+G3 T1 (l.take i)=m:=⟨_,rfl⟩
     have q2:x.group.targets.length≤1048576:=hbx.1.2.1
     have q3:x.peers.length≤1048576:=hbx.2.1.1
     have q4:x.queue.items.length≤1048576:=hbx.2.2.1.1
     have q5:x.queue.recent.length≤1048576:=hbx.2.2.2.1
     obtain ⟨m1,hm1⟩:∃ m,m0+1=m:=⟨_,rfl⟩
     obtain ⟨m2,hm2⟩:∃ m,m1+1=m:=⟨_,rfl⟩
     obtain ⟨m3,hm3⟩:∃ m,m2+3*x.group.targets.length=m:=⟨_,rfl⟩
     obtain ⟨m4,hm4⟩:∃ m,m3+6*x.peers.length=m:=⟨_,rfl⟩
     obtain ⟨m5,hm5⟩:∃ m,m4+4*x.queue.items.length=m:=⟨_,rfl⟩
     obtain ⟨m6,hm6⟩:∃ m,m5+1*x.queue.recent.length=m:=⟨_,rfl⟩
     have hcx:T1 x=2+3*x.group.targets.length+6*x.peers.length+4*x.queue.items.length+x.queue.recent.length:=rfl
     have hlast:k+G3 T1 (l.take (i+1))=m6:=by omega
     have s0:IntKind.i64.wrap ((m0:Int)+1)=(m1:Int):=by rw [wrap_i64 (by omega) (by omega)];omega
     have hk0:=a04 m0 (by omega)
     have s1:IntKind.i64.wrap ((m1:Int)+1)=(m2:Int):=by rw [wrap_i64 (by omega) (by omega)];omega
     have hk2:=b68 x.group.targets m2 (by omega) q2
     rw [hm3] at hk2
     have hk3:=c1w x.peers m3 (by omega) q3
     rw [hm4] at hk3
     have hk4:=b69 x.queue.items m4 (by omega) q4
     rw [hm5] at hk4
     have hk5:=a5z x.queue.recent m5 (by omega) q5
     rw [hm6] at hk5
     rw [hm0]
     simp [num,tx,h1,ho,hf,t7,z8,S4,T6,s0,s1]
     refine b7 rfl rfl (.inl rfl) hk0 ?_
     simp [num,tx,h1,ho,hf,t7,z8,S4,T6,s0,s1]
     refine b8g (by simp [PV.plain1]) rfl rfl rfl hk2 rfl ?_
     simp [num,tx,h1,ho,hf,t7,z8,S4,T6,s0,s1]
     refine b8g (by simp [PV.plain1]) rfl rfl rfl hk3 rfl ?_
     simp [num,tx,h1,ho,hf,t7,z8,S4,T6,s0,s1]
     refine b8g (by simp [PV.plain1]) rfl rfl rfl hk4 rfl ?_
     simp [num,tx,h1,ho,hf,t7,z8,S4,T6,s0,s1]
     refine b8g (by simp [PV.plain1]) rfl rfl rfl hk5 rfl ?_
     simp [num,tx,h1,ho,hf,t7,z8,S4,T6,s0,s1]
     refine LoopNext.mk (i+1) h1 (by omega) (Le.mkDN _ _ _ ?_ ?_ ?_)
     · simp only [hlast]
       simp [num,s0,s1]
       exact wrap_i64 (by omega) (by omega)
     · intro kp hkp;cases hkp
     · intro k' j hk'
       by_cases h0:k'=0∧j=0
       · obtain ⟨rfl,rfl⟩:=h0
         simp [t7,z8]
         refine .prow _ _ _ _ _ fun j k hj hk=>?_
         by_cases hji:j=i
         · rw [if_neg (show ¬ i+1≤j by omega)];exact .undef _
         · simp [hji]
           by_cases hj2:i≤j
           · rw [if_pos hj2,if_pos (by omega)];exact .refl _
           · rw [if_neg hj2,if_neg (by omega)];exact .undef _
       · rw [if_neg h0]
         by_cases hji:j=i
         · rw [if_neg (show ¬ i+1≤j by omega)];exact .dead _
         · simp [hk',t7,z8,hji,h0]
           by_cases hj2:i≤j
           · rw [if_pos hj2,if_pos (by omega)];exact .refl _
           · rw [if_neg hj2,if_neg (by omega)];exact .refl _
   · have e:i=l.length:=by omega
     subst e
     simp [num,t7,z8]
     refine b5s ?_
     simp [T5,a4z]
theorem c0o {M:Nat→MObj} (l:List LChannel) (h0:M (DN 0 0)=U7 l) (h:∀ k j,k < 16→(Q6 l k j).live=true→M (DN k j)=Q6 l k j):Res M (.own (DN 0 0)) (.list 6 (l.map j5)):=by
 refine .prow _ _ _ _ (S6 l) _ h0 (by simp) (fun x hx=>?_) fun j k hj hk=>?_
 · obtain ⟨y,_,rfl⟩:=List.mem_map.1 hx
   rfl
 have he:l[j]?=some l[j]:=List.getElem?_eq_getElem hj
 have e1:S6 l j k=(S4 l[j] j).getD k .undef:=by unfold S6;rw [he]
 have e2:(l.map j5).getD j .nilptr=j5 l[j]:=by simp [List.getD_eq_getElem?_getD,he]
 rw [e1,e2]
 generalize l[j]=x at he ⊢
 have:k=0∨k=1∨k=2∨k=3∨k=4∨k=5:=by omega
 rcases this with rfl | rfl | rfl | rfl | rfl | rfl
 · exact .val _
 · exact .val _
 · exact .row _ 185 _ _ (by rw [h 5 j (by omega) (by unfold Q6;rw [he];rfl)];unfold Q6;rw [he];rfl)
 · exact .row _ 194 _ _ (by rw [h 6 j (by omega) (by unfold Q6;rw [he];rfl)];unfold Q6;rw [he];rfl)
 · exact .row _ 174 _ _ (by rw [h 7 j (by omega) (by unfold Q6;rw [he];rfl)];unfold Q6;rw [he];rfl)
 · exact .row _ 9 _ _ (by rw [h 8 j (by omega) (by unfold Q6;rw [he];rfl)];unfold Q6;rw [he];rfl)
end Go.Proofs
end
section
namespace Go.Proofs
open Go.PW Go.KP
attribute [local simp] RV.cells RV.one PV.cells PV.solid PV.one G1 i6 L8 K7 RV.ofCells elems PV.killL
variable [GF]
attribute [local simp] a6k b1q b7o b7p b7n b4y a3z b2g a74 b6l b0r b2o a8t
theorem b9q (p:LPolicy) (k:Nat) (hx:a0h 1048576 p) (hk:k+p.uris.length+G3 Y8 p.rules < 8388608):Q9 Tryz.prog 26 [.agg (a3k p),.val (num k)] (dyn (O9 p)) (fun _=>false) (.val (num ((k+p.uris.length+G3 Y8 p.rules:Nat):Int))) (fun _=>.dead):=by
 refine Y6 mixed ok26 (fun i h=>a8h h) (fun i h=>by cases h) ?_
 unfold ir26
 rw [b6]
 obtain ⟨b0,b1,b2⟩:=hx
 have hl1:p.uris.length≤1048576:=b1.1
 have h1:=a5z p.uris k (by omega) hl1
 have h2:=c2h p.rules (k+p.uris.length) b2 (by omega)
 rw [Nat.one_mul] at h1
 obtain ⟨m,hm⟩:∃ m,k+p.uris.length=m:=⟨_,rfl⟩
 rw [hm] at h1 h2 ⊢
 simp [num,tx,a3k,O9,U5,a0q]
 refine b8g (by simp [PV.plain1]) rfl rfl rfl h1 rfl ?_
 simp [num,tx,a3k,O9,U5,a0q]
 refine c2n (G:=U5 p.rules) (fun k i=>k == 9 || k == 2 && i == 0) h2 ?_ ?_ ?_
 · intro q hq
   simp only [List.mem_cons,List.not_mem_nil,or_false] at hq
   rcases hq with rfl | rfl
   · exact O6 (by simp)
   · exact S5
 · intro k i hk' hl
   obtain ⟨e1,e2,_⟩:=a6c p.rules k i (S:=TD fun k i=>k == 9 || k == 2 && i == 0) (fun k j h=>by subst h;simp) hl
   refine ⟨e1,?_,e2⟩
   have h5:¬ (k=1∧i=0):=by simp at e1;omega
   simp [hk',h5,O9]
   rw [c05 _ _ _ _ fun k j h=>by simp]
 simp [num]
 refine b5s ?_
 simp [T5,a4z,num]
theorem c5f (p:LPipe) (k:Nat) (hx:a1c 1048576 p) (hk:k+a66 p < 8388608):Q9 Tryz.prog 17 [.agg (a31 p),.val (num k)] (dyn (R0 p)) (fun _=>false) (.val (num ((k+a66 p:Nat):Int))) (fun _=>.dead):=by
 refine Y6 mixed ok17 (fun i h=>a8h h) (fun i h=>by cases h) ?_
 unfold ir17
 rw [b6]
 obtain ⟨b0,b1,b2,b3⟩:=hx
 have hcp:a66 p=G3 T1 p.channels+p.policy.uris.length+G3 Y8 p.policy.rules+3*p.log.length+G3 a0p p.wires:=rfl
 obtain ⟨m1,hm1⟩:∃ m,k+G3 T1 p.channels=m:=⟨_,rfl⟩
 obtain ⟨m2,hm2⟩:∃ m,m1+p.policy.uris.length+G3 Y8 p.policy.rules=m:=⟨_,rfl⟩
 obtain ⟨m3,hm3⟩:∃ m,m2+3*p.log.length=m:=⟨_,rfl⟩
 obtain ⟨m4,hm4⟩:∃ m,m3+G3 a0p p.wires=m:=⟨_,rfl⟩
 have h1:=b50 p.channels k b0 (by omega)
 have h2:=b9q p.policy m1 b1 (by omega)
 have h3:=b9j p.log m2 (by omega) b2
 have h4:=c2g p.wires m3 b3 (by omega)
 have hm:k+a66 p=m4:=by omega
 rw [hm1] at h1
 rw [hm2] at h2
 rw [hm3] at h3
 rw [hm4] at h4
 rw [hm]
 simp [num,tx,a31,R0,O9,U5,a0q,P1,U7,W9,a2p]
 refine c2n (G:=P1 p.channels) (fun k i=>(k == 5 || k == 6 || k == 7 || k == 8) || k == 0 && i == 0) h1 ?_ ?_ ?_
 · intro q hq
   simp only [List.mem_cons,List.not_mem_nil,or_false] at hq
   rcases hq with rfl | rfl
   · exact O6 (by simp)
   · exact S5
 · intro k i hk' hl
   obtain ⟨e1,e2,_⟩:=a1z p.channels k i (S:=TD fun k i=>(k == 5 || k == 6 || k == 7 || k == 8) || k == 0 && i == 0) (fun k j h=>by rcases h with rfl | rfl | rfl | rfl<;>simp) hl
   refine ⟨e1,?_,e2⟩
   have h5:¬ (k=3∧i=0)∧¬ (k=1∧i=0∨k=2∧i=0∨k=9)∧¬ (k=4∧i=0∨k=10):=by simp at e1;omega
   simp [hk',R0,h5.1,h5.2.1,h5.2.2]
   rw [a3a _ _ _ _ fun k j h=>by simp]
 simp [num,tx,a31,R0,O9,U5,a0q,P1,U7,W9,a2p]
 refine c2n (G:=O9 p.policy) (fun k i=>k == 1 && i == 0 || k == 9 || k == 2 && i == 0) h2 ?_ ?_ ?_
 · intro q hq
   simp only [List.mem_cons,List.not_mem_nil,or_false] at hq
   rcases hq with rfl | rfl
   · exact a2e fun q hq=>by
      simp only [a3k,List.mem_cons,List.not_mem_nil,or_false] at hq
      rcases hq with rfl | rfl | rfl
      · exact S5
      · exact O6 (by simp)
      · exact O6 (by simp)
   · exact S5
 · intro k i hk' hl
   obtain ⟨e1,e2,_⟩:=a5l p.policy k i (S:=TD fun k i=>k == 1 && i == 0 || k == 9 || k == 2 && i == 0) (fun k j h=>by subst h;simp) hl
   refine ⟨e1,?_,e2⟩
   have h5:¬ (k=3∧i=0)∧(k=1∧i=0∨k=2∧i=0∨k=9)∧¬ ((((k=5∨k=6)∨k=7)∨k=8)∨k=0∧i=0):=by simp at e1;omega
   simp [hk',R0,h5.1,h5.2.1,h5.2.2]
   rw [a32 _ _ _ _ fun k j h=>by simp,a32 _ _ _ _ fun k j h=>by subst h;simp]
 simp [num,tx,a31,R0,O9,U5,a0q,P1,U7,W9,a2p]
 refine b8g (by simp [PV.plain1]) rfl rfl rfl h3 rfl ?_
 simp [num,tx,a31,R0,O9,U5,a0q,P1,U7,W9,a2p]
 refine c2n (G:=W9 p.wires) (fun k i=>(k == 10) || k == 4 && i == 0) h4 ?_ ?_ ?_
 · intro q hq
   simp only [List.mem_cons,List.not_mem_nil,or_false] at hq
   rcases hq with rfl | rfl
   · exact O6 (by simp)
   · exact S5
 · intro k i hk' hl
   obtain ⟨e1,e2,_⟩:=a88 p.wires k i (S:=TD fun k i=>(k == 10) || k == 4 && i == 0) (fun k j h=>by subst h;simp) hl
   refine ⟨e1,?_,e2⟩
   have h5:¬ (k=3∧i=0)∧¬ (k=1∧i=0∨k=2∧i=0∨k=9)∧(k=4∧i=0∨k=10)∧¬ ((((k=5∨k=6)∨k=7)∨k=8)∨k=0∧i=0)∧¬ ((k=1∧i=0∨k=9)∨k=2∧i=0):=by simp at e1;omega
   simp [hk',R0,h5.1,h5.2.1,h5.2.2.1,h5.2.2.2.1,h5.2.2.2.2]
   rw [a7x _ _ _ _ fun k j h=>by simp,a7x _ _ _ _ fun k j h=>by subst h;simp,a7x _ _ _ _ fun k j h=>by subst h;simp]
 simp [num]
 refine b5s ?_
 simp [T5,a4z,num]
theorem a7y (p:LPipe) (k i:Nat) (h:k=1∧i=0∨k=2∧i=0∨k=9):R0 p k i=O9 p.policy k i:=by
 unfold R0;rw [if_neg (by omega),if_pos h]
theorem b7s (p:LPipe) (k i:Nat) (h:k=4∧i=0∨k=10):R0 p k i=W9 p.wires k i:=by
 unfold R0;rw [if_neg (by omega),if_neg (by omega),if_pos h]
theorem b06 (p:LPipe) (k i:Nat) (h:k=0∧i=0∨k=5∨k=6∨k=7∨k=8):R0 p k i=P1 p.channels k i:=by
 unfold R0;rw [if_neg (by omega),if_neg (by omega),if_neg (by omega)]
theorem b15 (p:LPipe) (k i:Nat) (h:(R0 p k i).live=true):a0n k i=true:=by
 unfold R0 at h
 unfold a0n
 split at h
 · rename_i e;simp [e]
 split at h
 · rename_i e;rcases e with e | e | e<;>simp [e]
 split at h
 · rename_i e;rcases e with e | e<;>simp [e]
 · have:=(a1z p.channels k i (S:=fun _=>true) (fun _ _ _=>rfl) h).1
   simp at this
   simp;omega
theorem a6d (p:LPipe) (k i:Nat):(R0 p k i).onT (TD a0n):=by
 unfold R0
 split
 · exact T9
 split
 · exact a5k p.policy k i fun k j h=>by subst h;simp [a0n]
 split
 · exact b14 p.wires k i fun k j h=>by subst h;simp [a0n]
 · exact a6u p.channels k i fun k j h=>by rcases h with rfl | rfl | rfl | rfl<;>simp [a0n]
theorem a94 (p:LPipe) (k i:Nat):∀ cs,R0 p k i≠.box cs:=by
 intro cs h
 have hl:(R0 p k i).live=true:=by rw [h];rfl
 unfold R0 at h hl
 split at h
 · cases h
 rename_i h0
 rw [if_neg h0] at hl
 split at h
 · rename_i e;rw [if_pos e] at hl;exact (a5l p.policy k i (S:=fun _=>true) (fun _ _ _=>rfl) hl).2.2 cs h
 rename_i h1
 rw [if_neg h1] at hl
 split at h
 · rename_i e;rw [if_pos e] at hl;exact (a88 p.wires k i (S:=fun _=>true) (fun _ _ _=>rfl) hl).2.2 cs h
 · rename_i e;rw [if_neg e] at hl;exact (a1z p.channels k i (S:=fun _=>true) (fun _ _ _=>rfl) hl).2.2 cs h
theorem c06 (p:LPipe) (k i:Nat) (d:Nat→Bool) (h:∀ x,TD a0n x=true→d x=false):(R0 p k i).kill d=R0 p k i:=(a6d p k i).2 d h
theorem b16 (p:LPipe) (k i n:Nat) (hn:n < 1000000):(R0 p k i).kill (fun x=>x == n)=R0 p k i:=c06 p k i _ fun x hx=>by
 have:=TD_D hx
 simp [isD] at this
 simp;omega
theorem a9e (p:LPipe):(PV.agg (a31 p)).onT (TD a0n):=a2e fun q hq=>by
 simp only [a31,List.mem_cons,List.not_mem_nil,or_false] at hq
 rcases hq with rfl | rfl | rfl | rfl | rfl | rfl | rfl | rfl
 · exact O6 (by simp [a0n])
 · exact S5
 · exact O6 (by simp [a0n])
 · exact O6 (by simp [a0n])
 · exact S5
 · exact S5
 · exact O6 (by simp [a0n])
 · exact O6 (by simp [a0n])
theorem b4n (p:LPipe) (M:Nat→MObj) (h:∀ k j,k < 16→a0n k j=true→M (DN k j)=R0 p k j):Res M (.agg (a31 p)) (L4 p):=by
 have hc:=c0o (M:=M) p.channels (by rw [h 0 0 (by omega) (by simp [a0n]),b06 _ _ _ (by omega)];simp [P1]) fun k j hk hl=>by
  rcases a35 p.channels k j with ⟨h',_,_⟩ | e
  · rw [h k j hk (by rcases h' with rfl | rfl | rfl | rfl<;>simp [a0n]),b06 _ _ _ (by omega)]
    unfold P1;rw [if_neg (by omega)]
  · rw [e] at hl;cases hl
 have hr:=c9x (M:=M) p.policy.rules (by rw [h 2 0 (by omega) (by simp [a0n]),a7y _ _ _ (by omega)];simp [O9,U5]) fun k j hk hl=>by
  rcases a64 p.policy.rules k j with ⟨h',_,_⟩ | e
  · rw [h k j hk (by subst h';simp [a0n]),a7y _ _ _ (by omega)]
    unfold O9 U5;rw [if_neg (by omega),if_neg (by omega)]
  · rw [e] at hl;cases hl
 have hw:=c9w (M:=M) p.wires (by rw [h 4 0 (by omega) (by simp [a0n]),b7s _ _ _ (by omega)];simp [W9]) fun k j hk hl=>by
  rcases a63 p.wires k j with ⟨h',_,_⟩ | e
  · rw [h k j hk (by subst h';simp [a0n]),b7s _ _ _ (by omega)]
    unfold W9;rw [if_neg (by omega)]
  · rw [e] at hl;cases hl
 refine .agg _ _ rfl fun i hi=>?_
 have:i=0∨i=1∨i=2∨i=3∨i=4∨i=5∨i=6∨i=7:=by simp [a31] at hi;omega
 rcases this with rfl | rfl | rfl | rfl | rfl | rfl | rfl | rfl
 · exact hc
 · exact .val _
 · exact .row _ 9 _ _ (by rw [h 1 0 (by omega) (by simp [a0n]),a7y _ _ _ (by omega)];simp [O9])
 · exact hr
 · exact .val _
 · exact .val _
 · exact .row _ 157 _ _ (by rw [h 3 0 (by omega) (by simp [a0n])];simp [R0])
 · exact hw
theorem b38 (p:LPipe) (hs:a1c 1048576 p):d8 Tryz.prog 11 [.val (L4 p)] (.ret (.val (L4 p)) []) []:=
 ok_of_mem (c2e p hs) (b4n p _ fun k j hk _=>a3z hk)
end Go.Proofs
end
