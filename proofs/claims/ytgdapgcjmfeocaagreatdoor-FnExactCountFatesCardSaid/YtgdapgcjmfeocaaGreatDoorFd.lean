/- Fd: merged out of KXb, KXc, KXd, KXe. -/
import Derived.Test.YtgdapgcjmfeocaaGreatDoorFc
import Derived.Test.YtgdapgcjmfeocaaGreatDoorPWaf
import Derived.Test.YtgdapgcjmfeocaaGreatDoorPWag
set_option linter.unusedSectionVars false
set_option linter.unusedSimpArgs false
set_option linter.unusedVariables false
set_option maxRecDepth 100000
section
namespace Go.Proofs
open Go.PW Go.KP
attribute [local simp] RV.cells RV.one PV.cells PV.solid PV.one G3 i7 L8 L5 RV.ofCells elems PV.killL
variable [GF]
attribute [local simp] a7h b3e c0v c0w c0u b7h a4m b5u a96 b70 b2j b6h b0p
theorem a49 {α:Type} {f:α→RV} (h:∀ x,(f x).flat=true) (l:List α):∀ x∈l.map f,x.flat=true:=fun x hx=>by
 obtain ⟨y,_,rfl⟩:=List.mem_map.1 hx
 exact h y
theorem a8h (l:List Tx) (k j:Nat) (hk:k < 16) (hx:bdS 1048576 (fun t=>t.length≤1048576) l):R1 Tryz.prog 76 [.val (.list 1 (l.map tx))] (fun _=>.dead) (fun _=>false) (.own (DN k j)) (dyn fun k' j'=>if k'=k∧j'=j then .row 9 1 (l.map tx) else .dead):=
 a82 (b2a l hx) (a49 (fun _=>rfl) l) k j hk
theorem d1g (l:List Int) (k j:Nat) (hk:k < 16) (hx:l.length≤1048576):R1 Tryz.prog 120 [.val (.list 1 (l.map num))] (fun _=>.dead) (fun _=>false) (.own (DN k j)) (dyn fun k' j'=>if k'=k∧j'=j then .row 3 1 (l.map num) else .dead):=
 a82 (b64 l hx) (a49 (fun _=>rfl) l) k j hk
theorem c2a (l:List LTarget) (k j:Nat) (hk:k < 16) (hx:bdS 1048576 (U5 1048576) l):R1 Tryz.prog 155 [.val (.list 3 (l.map f9))] (fun _=>.dead) (fun _=>false) (.own (DN k j)) (dyn fun k' j'=>if k'=k∧j'=j then .row 162 3 (l.map f9) else .dead):=
 a82 (b19 l hx) (a49 (fun _=>rfl) l) k j hk
theorem c8m (l:List LPeer) (k j:Nat) (hk:k < 16) (hx:bdS 1048576 (a1b 1048576) l):R1 Tryz.prog 117 [.val (.list 6 (l.map G0))] (fun _=>.dead) (fun _=>false) (.own (DN k j)) (dyn fun k' j'=>if k'=k∧j'=j then .row 164 6 (l.map G0) else .dead):=
 a82 (b5j l hx) (a49 (fun _=>rfl) l) k j hk
theorem c2b (l:List LReport) (k j:Nat) (hk:k < 16) (hx:bdS 1048576 (X3 1048576) l):R1 Tryz.prog 157 [.val (.list 4 (l.map j4))] (fun _=>.dead) (fun _=>false) (.own (DN k j)) (dyn fun k' j'=>if k'=k∧j'=j then .row 146 4 (l.map j4) else .dead):=
 a82 (b2b l hx) (a49 (fun _=>rfl) l) k j hk
theorem c49 (l:List LEntry) (k j:Nat) (hk:k < 16) (hx:l.length≤1048576):R1 Tryz.prog 39 [.val (.list 3 (l.map A1))] (fun _=>.dead) (fun _=>false) (.own (DN k j)) (dyn fun k' j'=>if k'=k∧j'=j then .row 83 3 (l.map A1) else .dead):=
 a82 (b3m l hx) (a49 (fun _=>rfl) l) k j hk
def a36 (x:LGroup) (j:Nat):List PV:=[.val (tx x.name),.val (num x.age),.own (DN 5 j)]
def a2j (x:LGroup) (k:Nat):MObj:=if k=5 then .row 162 3 (x.targets.map f9) else .dead
theorem a7t (x:LGroup) (k:Nat):((k=5)∧∃ E sz xs,a2j x k=.row E sz xs)∨a2j x k=.dead∧¬ (k=5):=by
 by_cases h:k=5
 · refine .inl ⟨h,?_⟩
   unfold a2j
   subst h;simp
 · refine .inr ⟨?_,h⟩
   unfold a2j
   skip
   simp [h]
theorem b59 (x:LGroup) (j:Nat) {S:Nat→Bool} (h:∀ k,(k=5)→S (DN k j)=true):(PV.agg (a36 x j)).onT S:=by
 refine a2c fun p hp=>?_
 simp only [a36,List.mem_cons,List.not_mem_nil,or_false] at hp
 rcases hp with rfl | rfl | rfl
 · exact S5
 · exact S5
 · exact O6 (h _ (by simp))
theorem c8n (x:LGroup) (j:Nat) (hx:a10 1048576 x):R1 Tryz.prog 116 [.val (L9 x)] (fun _=>.dead) (fun _=>false) (.agg (a36 x j)) (dyn fun k i=>if i=j then a2j x k else .dead):=by
 refine X2 mixed ok116 (fun i h=>by cases h) (fun i h=>by cases h) ?_
 unfold ir116
 rw [b6]
 unfold a10 at hx
 obtain ⟨b0,b1⟩:=hx
 simp [L9,tx,num]
 refine a3m (rs:=[.list 3 (x.targets.map f9)]) (fun k' i'=>k' == 5 && i' == j) rfl (c2a x.targets 5 j (by omega) b1) ?_ ?_ ?_
 · intro k i hk hl
   by_cases h:k=5∧i=j
   · rw [if_pos h]
     exact ⟨by simp [h],U0,fun cs h=>by cases h⟩
   · rw [if_neg h] at hl;cases hl
 · exact O6 (by simp)
 simp [L9,tx,num]
 refine b0d _ ?_ ?_ ?_ ?_
 · simp [a36,a2j,L9,tx,num,T9,a4y]
 · intro k i hk hl
   by_cases h:i=j
   · subst h
     rw [if_pos rfl] at hl ⊢
     rcases a7t x k with ⟨h,E,sz,xs,e⟩ | ⟨h,_⟩
     · subst h<;>simp [a36,a2j]
     · rw [h] at hl;cases hl
   · rw [if_neg h] at hl;cases hl
 · exact b59 x j fun k _=>by simp
 · intro k i hk
   by_cases h:i=j
   · rw [if_pos h]
     rcases a7t x k with ⟨h,E,sz,xs,e⟩ | ⟨h,_⟩
     · rw [e];exact U0
     · rw [h];exact Y4
   · rw [if_neg h];exact Y4
def a35 (x:LQueue) (j:Nat):List PV:=[.own (DN 7 j),.own (DN 8 j)]
def a2i (x:LQueue) (k:Nat):MObj:=if k=7 then .row 146 4 (x.items.map j4) else if k=8 then .row 9 1 (x.recent.map tx) else .dead
theorem a7s (x:LQueue) (k:Nat):((k=7∨k=8)∧∃ E sz xs,a2i x k=.row E sz xs)∨a2i x k=.dead∧¬ (k=7∨k=8):=by
 by_cases h:k=7∨k=8
 · refine .inl ⟨h,?_⟩
   unfold a2i
   rcases h with rfl | rfl<;>simp
 · refine .inr ⟨?_,h⟩
   unfold a2i
   simp only [not_or] at h
   simp [h]
theorem b58 (x:LQueue) (j:Nat) {S:Nat→Bool} (h:∀ k,(k=7∨k=8)→S (DN k j)=true):(PV.agg (a35 x j)).onT S:=by
 refine a2c fun p hp=>?_
 simp only [a35,List.mem_cons,List.not_mem_nil,or_false] at hp
 rcases hp with rfl | rfl
 · exact O6 (h _ (by simp))
 · exact O6 (h _ (by simp))
theorem c8l (x:LQueue) (j:Nat) (hx:a2m 1048576 x):R1 Tryz.prog 118 [.val (K8 x)] (fun _=>.dead) (fun _=>false) (.agg (a35 x j)) (dyn fun k i=>if i=j then a2i x k else .dead):=by
 refine X2 mixed ok118 (fun i h=>by cases h) (fun i h=>by cases h) ?_
 unfold ir118
 rw [b6]
 unfold a2m at hx
 obtain ⟨b0,b1⟩:=hx
 simp [K8,tx,num]
 refine a3m (rs:=[.list 4 (x.items.map j4)]) (fun k' i'=>k' == 7 && i' == j) rfl (c2b x.items 7 j (by omega) b0) ?_ ?_ ?_
 · intro k i hk hl
   by_cases h:k=7∧i=j
   · rw [if_pos h]
     exact ⟨by simp [h],U0,fun cs h=>by cases h⟩
   · rw [if_neg h] at hl;cases hl
 · exact O6 (by simp)
 simp [K8,tx,num]
 refine a3m (rs:=[.list 1 (x.recent.map tx)]) (fun k' i'=>k' == 8 && i' == j) rfl (a8h x.recent 8 j (by omega) b1) ?_ ?_ ?_
 · intro k i hk hl
   by_cases h:k=8∧i=j
   · rw [if_pos h]
     exact ⟨by simp [h],U0,fun cs h=>by cases h⟩
   · rw [if_neg h] at hl;cases hl
 · exact O6 (by simp)
 simp [K8,tx,num]
 refine b0d _ ?_ ?_ ?_ ?_
 · simp [a35,a2i,K8,tx,num,T9,a4y]
 · intro k i hk hl
   by_cases h:i=j
   · subst h
     rw [if_pos rfl] at hl ⊢
     rcases a7s x k with ⟨h,E,sz,xs,e⟩ | ⟨h,_⟩
     · rcases h with rfl | rfl<;>simp [a35,a2i]
     · rw [h] at hl;cases hl
   · rw [if_neg h] at hl;cases hl
 · exact b58 x j fun k _=>by simp
 · intro k i hk
   by_cases h:i=j
   · rw [if_pos h]
     rcases a7s x k with ⟨h,E,sz,xs,e⟩ | ⟨h,_⟩
     · rw [e];exact U0
     · rw [h];exact Y4
   · rw [if_neg h];exact Y4
def a1r (x:LRule) (j:Nat):List PV:=[.val (tx x.name),.own (DN 9 j)]
def a2n (x:LRule) (k:Nat):MObj:=if k=9 then .row 9 1 (x.words.map tx) else .dead
theorem a41 (x:LRule) (k:Nat):((k=9)∧∃ E sz xs,a2n x k=.row E sz xs)∨a2n x k=.dead∧¬ (k=9):=by
 by_cases h:k=9
 · refine .inl ⟨h,?_⟩
   unfold a2n
   subst h;simp
 · refine .inr ⟨?_,h⟩
   unfold a2n
   skip
   simp [h]
theorem b7x (x:LRule) (j:Nat) {S:Nat→Bool} (h:∀ k,(k=9)→S (DN k j)=true):(PV.agg (a1r x j)).onT S:=by
 refine a2c fun p hp=>?_
 simp only [a1r,List.mem_cons,List.not_mem_nil,or_false] at hp
 rcases hp with rfl | rfl
 · exact S5
 · exact O6 (h _ (by simp))
theorem d1f (x:LRule) (j:Nat) (hx:X6 1048576 x):R1 Tryz.prog 119 [.val (l5 x)] (fun _=>.dead) (fun _=>false) (.agg (a1r x j)) (dyn fun k i=>if i=j then a2n x k else .dead):=by
 refine X2 mixed ok119 (fun i h=>by cases h) (fun i h=>by cases h) ?_
 unfold ir119
 rw [b6]
 unfold X6 at hx
 obtain ⟨b0,b1⟩:=hx
 simp [l5,tx,num]
 refine a3m (rs:=[.list 1 (x.words.map tx)]) (fun k' i'=>k' == 9 && i' == j) rfl (a8h x.words 9 j (by omega) b1) ?_ ?_ ?_
 · intro k i hk hl
   by_cases h:k=9∧i=j
   · rw [if_pos h]
     exact ⟨by simp [h],U0,fun cs h=>by cases h⟩
   · rw [if_neg h] at hl;cases hl
 · exact O6 (by simp)
 simp [l5,tx,num]
 refine b0d _ ?_ ?_ ?_ ?_
 · simp [a1r,a2n,l5,tx,num,T9,a4y]
 · intro k i hk hl
   by_cases h:i=j
   · subst h
     rw [if_pos rfl] at hl ⊢
     rcases a41 x k with ⟨h,E,sz,xs,e⟩ | ⟨h,_⟩
     · subst h<;>simp [a1r,a2n]
     · rw [h] at hl;cases hl
   · rw [if_neg h] at hl;cases hl
 · exact b7x x j fun k _=>by simp
 · intro k i hk
   by_cases h:i=j
   · rw [if_pos h]
     rcases a41 x k with ⟨h,E,sz,xs,e⟩ | ⟨h,_⟩
     · rw [e];exact U0
     · rw [h];exact Y4
   · rw [if_neg h];exact Y4
def a04 (x:LWire) (j:Nat):List PV:=[.val (num x.at_),.val (num x.status),.val (tx x.group),.val (tx x.url),.own (DN 10 j),.val (tx x.body),.val (.bool x.lost)]
def a1j (x:LWire) (k:Nat):MObj:=if k=10 then .row 3 1 (x.ids.map num) else .dead
theorem a40 (x:LWire) (k:Nat):((k=10)∧∃ E sz xs,a1j x k=.row E sz xs)∨a1j x k=.dead∧¬ (k=10):=by
 by_cases h:k=10
 · refine .inl ⟨h,?_⟩
   unfold a1j
   subst h;simp
 · refine .inr ⟨?_,h⟩
   unfold a1j
   skip
   simp [h]
theorem b7w (x:LWire) (j:Nat) {S:Nat→Bool} (h:∀ k,(k=10)→S (DN k j)=true):(PV.agg (a04 x j)).onT S:=by
 refine a2c fun p hp=>?_
 simp only [a04,List.mem_cons,List.not_mem_nil,or_false] at hp
 rcases hp with rfl | rfl | rfl | rfl | rfl | rfl | rfl
 · exact S5
 · exact S5
 · exact S5
 · exact S5
 · exact O6 (h _ (by simp))
 · exact S5
 · exact S5
theorem d1e (x:LWire) (j:Nat) (hx:Z2 1048576 x):R1 Tryz.prog 79 [.val (H6 x)] (fun _=>.dead) (fun _=>false) (.agg (a04 x j)) (dyn fun k i=>if i=j then a1j x k else .dead):=by
 refine X2 mixed ok79 (fun i h=>by cases h) (fun i h=>by cases h) ?_
 unfold ir79
 rw [b6]
 unfold Z2 at hx
 obtain ⟨b0,b1,b2,b3⟩:=hx
 simp [H6,tx,num]
 refine a3m (rs:=[.list 1 (x.ids.map num)]) (fun k' i'=>k' == 10 && i' == j) rfl (d1g x.ids 10 j (by omega) b2) ?_ ?_ ?_
 · intro k i hk hl
   by_cases h:k=10∧i=j
   · rw [if_pos h]
     exact ⟨by simp [h],U0,fun cs h=>by cases h⟩
   · rw [if_neg h] at hl;cases hl
 · exact O6 (by simp)
 simp [H6,tx,num]
 refine b0d _ ?_ ?_ ?_ ?_
 · simp [a04,a1j,H6,tx,num,T9,a4y]
 · intro k i hk hl
   by_cases h:i=j
   · subst h
     rw [if_pos rfl] at hl ⊢
     rcases a40 x k with ⟨h,E,sz,xs,e⟩ | ⟨h,_⟩
     · subst h<;>simp [a04,a1j]
     · rw [h] at hl;cases hl
   · rw [if_neg h] at hl;cases hl
 · exact b7w x j fun k _=>by simp
 · intro k i hk
   by_cases h:i=j
   · rw [if_pos h]
     rcases a40 x k with ⟨h,E,sz,xs,e⟩ | ⟨h,_⟩
     · rw [e];exact U0
     · rw [h];exact Y4
   · rw [if_neg h];exact Y4
def S4 (x:LChannel) (j:Nat):List PV:=[.val (tx x.group.name),.val (num x.group.age),.own (DN 5 j),.own (DN 6 j),.own (DN 7 j),.own (DN 8 j)]
def T6 (x:LChannel) (k:Nat):MObj:=if k=5 then .row 162 3 (x.group.targets.map f9) else if k=6 then .row 164 6 (x.peers.map G0) else if k=7 then .row 146 4 (x.queue.items.map j4) else if k=8 then .row 9 1 (x.queue.recent.map tx) else .dead
theorem a2b (x:LChannel) (k:Nat):((k=5∨k=6∨k=7∨k=8)∧∃ E sz xs,T6 x k=.row E sz xs)∨T6 x k=.dead∧¬ (k=5∨k=6∨k=7∨k=8):=by
 by_cases h:k=5∨k=6∨k=7∨k=8
 · refine .inl ⟨h,?_⟩
   unfold T6
   rcases h with rfl | rfl | rfl | rfl<;>simp
 · refine .inr ⟨?_,h⟩
   unfold T6
   simp only [not_or] at h
   simp [h]
theorem b1h (x:LChannel) (j:Nat) {S:Nat→Bool} (h:∀ k,(k=5∨k=6∨k=7∨k=8)→S (DN k j)=true):(PV.agg (S4 x j)).onT S:=by
 refine a2c fun p hp=>?_
 simp only [S4,List.mem_cons,List.not_mem_nil,or_false] at hp
 rcases hp with rfl | rfl | rfl | rfl | rfl | rfl
 · exact S5
 · exact S5
 · exact O6 (h _ (by simp))
 · exact O6 (h _ (by simp))
 · exact O6 (h _ (by simp))
 · exact O6 (h _ (by simp))
theorem c2d (x:LChannel) (j:Nat) (hx:Q9 1048576 x):R1 Tryz.prog 75 [.val (j7 x)] (fun _=>.dead) (fun _=>false) (.agg (S4 x j)) (dyn fun k i=>if i=j then T6 x k else .dead):=by
 refine X2 mixed ok75 (fun i h=>by cases h) (fun i h=>by cases h) ?_
 unfold ir75
 rw [b6]
 unfold Q9 at hx
 obtain ⟨b0,b1,b2⟩:=hx
 simp [L9,K8,j7,tx,num]
 refine a3m (rs:=[L9 x.group]) (fun k' i'=>(k' == 5) && i' == j) rfl (c8n x.group j b0) ?_ ?_ ?_
 · intro k' i' hk hl
   by_cases h:i'=j
   · subst h
     rw [if_pos rfl] at hl ⊢
     rcases a7t x.group k' with ⟨h,E,sz,xs,e⟩ | ⟨h,_⟩
     · rw [e];exact ⟨by subst h;simp,U0,fun cs h=>by cases h⟩
     · rw [h] at hl;cases hl
   · rw [if_neg h] at hl;cases hl
 · refine b59 x.group j fun k hk=>?_
   subst hk;simp
 simp [L9,K8,j7,a36,a2j,a35,a2i,tx,num]
 refine a3m (rs:=[.list 6 (x.peers.map G0)]) (fun k' i'=>k' == 6 && i' == j) rfl (c8m x.peers 6 j (by omega) b1) ?_ ?_ ?_
 · intro k i hk hl
   by_cases h:k=6∧i=j
   · rw [if_pos h]
     exact ⟨by simp [h],U0,fun cs h=>by cases h⟩
   · rw [if_neg h] at hl;cases hl
 · exact O6 (by simp)
 simp [L9,K8,j7,a36,a2j,a35,a2i,tx,num]
 refine a3m (rs:=[K8 x.queue]) (fun k' i'=>(k' == 7 || k' == 8) && i' == j) rfl (c8l x.queue j b2) ?_ ?_ ?_
 · intro k' i' hk hl
   by_cases h:i'=j
   · subst h
     rw [if_pos rfl] at hl ⊢
     rcases a7s x.queue k' with ⟨h,E,sz,xs,e⟩ | ⟨h,_⟩
     · rw [e];exact ⟨by rcases h with rfl | rfl<;>simp,U0,fun cs h=>by cases h⟩
     · rw [h] at hl;cases hl
   · rw [if_neg h] at hl;cases hl
 · refine b58 x.queue j fun k hk=>?_
   rcases hk with rfl | rfl<;>simp
 simp [L9,K8,j7,a36,a2j,a35,a2i,tx,num]
 refine b0d _ ?_ ?_ ?_ ?_
 · simp [a36,a2j,a35,a2i,S4,T6,L9,K8,j7,tx,num,T9,a4y]
 · intro k i hk hl
   by_cases h:i=j
   · subst h
     rw [if_pos rfl] at hl ⊢
     rcases a2b x k with ⟨h,E,sz,xs,e⟩ | ⟨h,_⟩
     · rcases h with rfl | rfl | rfl | rfl<;>simp [a36,a2j,a35,a2i,S4,T6]
     · rw [h] at hl;cases hl
   · rw [if_neg h] at hl;cases hl
 · exact b1h x j fun k _=>by simp
 · intro k i hk
   by_cases h:i=j
   · rw [if_pos h]
     rcases a2b x k with ⟨h,E,sz,xs,e⟩ | ⟨h,_⟩
     · rw [e];exact U0
     · rw [h];exact Y4
   · rw [if_neg h];exact Y4
def S6 (l:List LChannel) (j k:Nat):PV:=match l[j]? with
 | some x=>(S4 x j).getD k .undef
 | none=>.undef
def U7 (l:List LChannel):MObj:=.prow 120 6 l.length (S6 l)
def Q6 (l:List LChannel) (k j:Nat):MObj:=match l[j]? with
 | some x=>T6 x k
 | none=>.dead
theorem b9v (x:LChannel) (j k:Nat):(∃ r,(S4 x j).getD k .undef=.val r)∨(S4 x j).getD k .undef=.undef∨(∃ k',(k'=5∨k'=6∨k'=7∨k'=8)∧(S4 x j).getD k .undef=.own (DN k' j)):=by
 unfold S4
 by_cases h:k < 6
 · have:k=0∨k=1∨k=2∨k=3∨k=4∨k=5:=by omega
   rcases this with rfl | rfl | rfl | rfl | rfl | rfl<;>simp
 · rw [List.getD_eq_getElem?_getD,List.getElem?_eq_none (by simp;omega)]
   exact .inr (.inl rfl)
theorem a9l (l:List LChannel) (j k:Nat):(∃ r,S6 l j k=.val r)∨S6 l j k=.undef∨(∃ k',(k'=5∨k'=6∨k'=7∨k'=8)∧S6 l j k=.own (DN k' j)):=by
 unfold S6
 cases l[j]? with
 | none=>exact .inr (.inl rfl)
 | some x=>exact b9v x j k
theorem b3h (l:List LChannel) (j k:Nat) (d:Nat→Bool) (h:∀ k',(k'=5∨k'=6∨k'=7∨k'=8)→d (DN k' j)=false):(S6 l j k).kill d=S6 l j k:=by
 rcases a9l l j k with ⟨r,e⟩ | e | ⟨k',hk,e⟩<;>rw [e]<;>simp only [PV.kill]
 rw [h k' hk];rfl
theorem a33 (l:List LChannel) (k j:Nat):((k=5∨k=6∨k=7∨k=8)∧j < l.length∧∃ E sz xs,Q6 l k j=.row E sz xs)∨Q6 l k j=.dead:=by
 unfold Q6
 by_cases h:j < l.length
 · rw [List.getElem?_eq_getElem h]
   rcases a2b l[j] k with ⟨h',e⟩ | ⟨h,_⟩
   · exact .inl ⟨h',h,e⟩
   · exact .inr h
 · rw [List.getElem?_eq_none (by omega)];exact .inr rfl
theorem b5r (l:List LChannel) (k j:Nat) (d:Nat→Bool):(Q6 l k j).kill d=Q6 l k j:=by
 rcases a33 l k j with ⟨_,_,E,sz,xs,e⟩ | e<;>rw [e]<;>rfl
theorem b01 (l:List LChannel) {S:Nat→Bool} (h:∀ k j,(k=5∨k=6∨k=7∨k=8)→S (DN k j)=true):(U7 l).onT S:=by
 refine b4n fun j k=>?_
 rcases a9l l j k with ⟨r,e⟩ | e | ⟨k',hk,e⟩
 · exact .inl ⟨r,e⟩
 · exact .inr (.inl e)
 · exact .inr (.inr (.inr ⟨_,e,h k' j hk⟩))
def P1 (l:List LChannel) (k i:Nat):MObj:=if k=0∧i=0 then U7 l else Q6 l k i
theorem a1x (l:List LChannel) (k i:Nat) {S:Nat→Bool} (hS:∀ k j,(k=5∨k=6∨k=7∨k=8)→S (DN k j)=true) (h:(P1 l k i).live=true):((k == 5 || k == 6 || k == 7 || k == 8) || (k == 0 && i == 0))=true∧(P1 l k i).onT S∧∀ cs,P1 l k i≠.box cs:=by
 unfold P1 at h ⊢
 by_cases h0:k=0∧i=0
 · rw [if_pos h0]
   exact ⟨by simp [h0],b01 l hS,fun cs h=>by cases h⟩
 · rw [if_neg h0] at h ⊢
   rcases a33 l k i with ⟨h',_,E,sz,xs,e⟩ | e
   · rw [e]
     refine ⟨?_,U0,fun cs h=>by cases h⟩
     rcases h' with rfl | rfl | rfl | rfl<;>simp
   · rw [e] at h;cases h
theorem a6w (l:List LChannel) (k i:Nat) {S:Nat→Bool} (hS:∀ k j,(k=5∨k=6∨k=7∨k=8)→S (DN k j)=true):(P1 l k i).onT S:=by
 cases hl:(P1 l k i).live with
 | true=>exact (a1x l k i hS hl).2.1
 | false=>cases hm:P1 l k i<;>rw [hm] at hl<;>first | exact Y4 | cases hl
theorem a28 (l:List LChannel) (k i:Nat) (d:Nat→Bool) (h:∀ k j,(k=5∨k=6∨k=7∨k=8)→d (DN k j)=false):(P1 l k i).kill d=P1 l k i:=
 (a6w l k i (S:=fun x=>!d x) fun k j hk=>by simp [h k j hk]).2 d fun x hx=>by simpa using hx
theorem b9o (l:List LChannel) (hx:bdS 1048576 (Q9 1048576) l):R1 Tryz.prog 37 [.val (.list 6 (l.map j7))] (fun _=>.dead) (fun _=>false) (.own (DN 0 0)) (dyn (P1 l)):=by
 refine X2 mixed okp37 (fun i h=>by cases h) (fun i h=>by cases h) ?_
 unfold irp37
 rw [b6]
 have hl:l.length≤1048576:=hx.1
 simp [num,G3]
 refine ⟨by omega,by omega,?_⟩
 refine j8 (X:=Nat) (fun i=>⟨t6 [(0,.val (.list 6 (l.map j7))),(3,.own 7),(4,.val (num i))],b03 [(7,.prow 120 6 l.length fun j k=>if j < i then S6 l j k else .undef)] (fun k j=>if j < i then Q6 l k j else .dead)⟩) (fun i=>i≤l.length) (fun i=>l.length - i) 0 (Le.mkDN _ _ _ ?_ ?_ ?_) (Nat.zero_le _) ?_
 · simp [upd,num,PV.kill]
 · intro kp hkp
   rw [List.mem_singleton.1 hkp]
   simp [upd]
   refine .rowp _ _ _ _ _ (by simp) fun j k hj hk=>?_
   exact .undef _
 · intro k j hk
   simp
   exact .dead _
 · intro i hi
   simp [num,t7,A0]
   refine f8 (fun h1=>?_) (fun h1=>?_)
   · obtain ⟨x,hxe⟩:∃ x,l[i]=x:=⟨_,rfl⟩
     have he:l[i]?=some x:=by rw [List.getElem?_eq_getElem h1,hxe]
     have hbx:Q9 1048576 x:=by rw [← hxe];exact hx.2 _ (List.getElem_mem h1)
     simp [num,h1,he,hxe,t7,A0,j7]
     refine a3m (rs:=[j7 x]) (fun k' i'=>(k' == 5 || k' == 6 || k' == 7 || k' == 8) && i' == i) rfl (c2d x i hbx) ?_ ?_ ?_
     · intro k' i' hk hl
       by_cases h:i'=i
       · subst h
         rw [if_pos rfl] at hl ⊢
         rcases a2b x k' with ⟨h,E,sz,xs,e⟩ | ⟨h,_⟩
         · rw [e];exact ⟨by rcases h with rfl | rfl | rfl | rfl<;>simp,U0,fun cs h=>by cases h⟩
         · rw [h] at hl;cases hl
       · rw [if_neg h] at hl;cases hl
     · refine b1h x i fun k h=>?_
       rcases h with rfl | rfl | rfl | rfl<;>simp
     simp [num,tx,h1,he,t7,A0,S4,T6]
     refine LoopNext.mk (i+1) h1 (by omega) (Le.mkDN _ _ _ ?_ ?_ ?_)
     · simp [num]
       exact wrap_i64 (by omega) (by omega)
     · intro kp hkp
       rw [List.mem_singleton.1 hkp]
       simp [t7,A0]
       refine .prow _ _ _ _ _ fun j k hj hk=>?_
       by_cases hji:j=i
       · subst hji
         have e:S6 l j k=(S4 x j).getD k .undef:=by unfold S6;rw [he]
         rw [if_pos ⟨rfl,hk⟩,if_pos (by omega),e]
         exact .refl _
       · rw [if_neg (fun h=>hji h.1)]
         by_cases hj2:j < i
         · rw [if_pos hj2,if_pos (by omega),b3h]
           · exact .refl _
           · intro k h
             rcases h with rfl | rfl | rfl | rfl<;>simp [hji]
         · rw [if_neg (by omega),if_neg (by omega)];exact .undef _
     · intro k j hk
       by_cases hji:j=i
       · subst hji
         have e:Q6 l k j=T6 x k:=by unfold Q6;rw [he]
         simp [hk,t7,A0]
         rw [e]
         rcases a2b x k with ⟨h,E,sz,xs,e⟩ | ⟨h,_⟩
         · rcases h with rfl | rfl | rfl | rfl<;>simp [T6]<;>exact .refl _
         · rw [h];exact .dead _
       · simp [hk,t7,A0,hji]
         by_cases hj2:j < i
         · rw [if_pos hj2,if_pos (by omega),b5r];exact .refl _
         · rw [if_neg (by omega),if_neg (by omega)];exact .dead _
   · have e:i=l.length:=by omega
     subst e
     simp [num,t7,A0]
     refine c43 [(DN 0 0,7,U7 l)] (fun k j=>Q6 l k j) ?_ ?_ ?_ ?_ ?_ ?_
     · intro k j hk
       simp [a6u,P1,hk]
     · simp [ioL,PV.ren,T9,a4y]
     · intro e he
       rw [List.mem_singleton.1 he]
       refine ⟨by simp,by simp,?_⟩
       have:(U7 l).ren (ioL [(DN 0 0,7,U7 l)])=U7 l:=(b01 l (S:=TD (fun k i=>(k == 5 || k == 6 || k == 7 || k == 8))) fun k j h=>by rcases h with rfl | rfl | rfl | rfl<;>simp).1 _ fun x hx=>by
        refine b9d fun e he=>?_
        rw [List.mem_singleton.1 he]
        rintro rfl
        simp at hx
       rw [this]
       simp [t7,A0,U7]
       funext j k
       by_cases hj:j < l.length
       · rw [if_pos hj]
       · rw [if_neg hj];unfold S6;rw [List.getElem?_eq_none (by omega)]
     · simp
     · intro e he
       rw [List.mem_singleton.1 he];simp
     · intro k j hk hl _
       rcases a33 l k j with ⟨_,hj,E,sz,xs,e⟩ | e
       · simp [t7,A0,hk,hj]
         rw [e];rfl
       · rw [e] at hl;cases hl
def a0a (l:List LRule) (j k:Nat):PV:=match l[j]? with
 | some x=>(a1r x j).getD k .undef
 | none=>.undef
def a0q (l:List LRule):MObj:=.prow 154 2 l.length (a0a l)
def a1o (l:List LRule) (k j:Nat):MObj:=match l[j]? with
 | some x=>a2n x k
 | none=>.dead
theorem c81 (x:LRule) (j k:Nat):(∃ r,(a1r x j).getD k .undef=.val r)∨(a1r x j).getD k .undef=.undef∨(∃ k',(k'=9)∧(a1r x j).getD k .undef=.own (DN k' j)):=by
 unfold a1r
 by_cases h:k < 2
 · have:k=0∨k=1:=by omega
   rcases this with rfl | rfl<;>simp
 · rw [List.getD_eq_getElem?_getD,List.getElem?_eq_none (by simp;omega)]
   exact .inr (.inl rfl)
theorem b4r (l:List LRule) (j k:Nat):(∃ r,a0a l j k=.val r)∨a0a l j k=.undef∨(∃ k',(k'=9)∧a0a l j k=.own (DN k' j)):=by
 unfold a0a
 cases l[j]? with
 | none=>exact .inr (.inl rfl)
 | some x=>exact c81 x j k
theorem b8s (l:List LRule) (j k:Nat) (d:Nat→Bool) (h:∀ k',(k'=9)→d (DN k' j)=false):(a0a l j k).kill d=a0a l j k:=by
 rcases b4r l j k with ⟨r,e⟩ | e | ⟨k',hk,e⟩<;>rw [e]<;>simp only [PV.kill]
 rw [h k' hk];rfl
theorem a62 (l:List LRule) (k j:Nat):((k=9)∧j < l.length∧∃ E sz xs,a1o l k j=.row E sz xs)∨a1o l k j=.dead:=by
 unfold a1o
 by_cases h:j < l.length
 · rw [List.getElem?_eq_getElem h]
   rcases a41 l[j] k with ⟨h',e⟩ | ⟨h,_⟩
   · exact .inl ⟨h',h,e⟩
   · exact .inr h
 · rw [List.getElem?_eq_none (by omega)];exact .inr rfl
theorem c15 (l:List LRule) (k j:Nat) (d:Nat→Bool):(a1o l k j).kill d=a1o l k j:=by
 rcases a62 l k j with ⟨_,_,E,sz,xs,e⟩ | e<;>rw [e]<;>rfl
theorem b7g (l:List LRule) {S:Nat→Bool} (h:∀ k j,(k=9)→S (DN k j)=true):(a0q l).onT S:=by
 refine b4n fun j k=>?_
 rcases b4r l j k with ⟨r,e⟩ | e | ⟨k',hk,e⟩
 · exact .inl ⟨r,e⟩
 · exact .inr (.inl e)
 · exact .inr (.inr (.inr ⟨_,e,h k' j hk⟩))
def U6 (l:List LRule) (k i:Nat):MObj:=if k=2∧i=0 then a0q l else a1o l k i
theorem a6f (l:List LRule) (k i:Nat) {S:Nat→Bool} (hS:∀ k j,(k=9)→S (DN k j)=true) (h:(U6 l k i).live=true):((k == 9) || (k == 2 && i == 0))=true∧(U6 l k i).onT S∧∀ cs,U6 l k i≠.box cs:=by
 unfold U6 at h ⊢
 by_cases h0:k=2∧i=0
 · rw [if_pos h0]
   exact ⟨by simp [h0],b7g l hS,fun cs h=>by cases h⟩
 · rw [if_neg h0] at h ⊢
   rcases a62 l k i with ⟨h',_,E,sz,xs,e⟩ | e
   · rw [e]
     refine ⟨?_,U0,fun cs h=>by cases h⟩
     subst h';simp
   · rw [e] at h;cases h
theorem c7c (l:List LRule) (k i:Nat) {S:Nat→Bool} (hS:∀ k j,(k=9)→S (DN k j)=true):(U6 l k i).onT S:=by
 cases hl:(U6 l k i).live with
 | true=>exact (a6f l k i hS hl).2.1
 | false=>cases hm:U6 l k i<;>rw [hm] at hl<;>first | exact Y4 | cases hl
theorem c01 (l:List LRule) (k i:Nat) (d:Nat→Bool) (h:∀ k j,(k=9)→d (DN k j)=false):(U6 l k i).kill d=U6 l k i:=
 (c7c l k i (S:=fun x=>!d x) fun k j hk=>by simp [h k j hk]).2 d fun x hx=>by simpa using hx
theorem c8k (l:List LRule) (hx:bdS 1048576 (X6 1048576) l):R1 Tryz.prog 77 [.val (.list 2 (l.map l5))] (fun _=>.dead) (fun _=>false) (.own (DN 2 0)) (dyn (U6 l)):=by
 refine X2 mixed okp77 (fun i h=>by cases h) (fun i h=>by cases h) ?_
 unfold irp77
 rw [b6]
 have hl:l.length≤1048576:=hx.1
 simp [num,G3]
 refine ⟨by omega,by omega,?_⟩
 refine j8 (X:=Nat) (fun i=>⟨t6 [(0,.val (.list 2 (l.map l5))),(3,.own 7),(4,.val (num i))],b03 [(7,.prow 154 2 l.length fun j k=>if j < i then a0a l j k else .undef)] (fun k j=>if j < i then a1o l k j else .dead)⟩) (fun i=>i≤l.length) (fun i=>l.length - i) 0 (Le.mkDN _ _ _ ?_ ?_ ?_) (Nat.zero_le _) ?_
 · simp [upd,num,PV.kill]
 · intro kp hkp
   rw [List.mem_singleton.1 hkp]
   simp [upd]
   refine .rowp _ _ _ _ _ (by simp) fun j k hj hk=>?_
   exact .undef _
 · intro k j hk
   simp
   exact .dead _
 · intro i hi
   simp [num,t7,A0]
   refine f8 (fun h1=>?_) (fun h1=>?_)
   · obtain ⟨x,hxe⟩:∃ x,l[i]=x:=⟨_,rfl⟩
     have he:l[i]?=some x:=by rw [List.getElem?_eq_getElem h1,hxe]
     have hbx:X6 1048576 x:=by rw [← hxe];exact hx.2 _ (List.getElem_mem h1)
     simp [num,h1,he,hxe,t7,A0,l5]
     refine a3m (rs:=[l5 x]) (fun k' i'=>(k' == 9) && i' == i) rfl (d1f x i hbx) ?_ ?_ ?_
     · intro k' i' hk hl
       by_cases h:i'=i
       · subst h
         rw [if_pos rfl] at hl ⊢
         rcases a41 x k' with ⟨h,E,sz,xs,e⟩ | ⟨h,_⟩
         · rw [e];exact ⟨by subst h;simp,U0,fun cs h=>by cases h⟩
         · rw [h] at hl;cases hl
       · rw [if_neg h] at hl;cases hl
     · refine b7x x i fun k h=>?_
       subst h;simp
     simp [num,tx,h1,he,t7,A0,a1r,a2n]
     refine LoopNext.mk (i+1) h1 (by omega) (Le.mkDN _ _ _ ?_ ?_ ?_)
     · simp [num]
       exact wrap_i64 (by omega) (by omega)
     · intro kp hkp
       rw [List.mem_singleton.1 hkp]
       simp [t7,A0]
       refine .prow _ _ _ _ _ fun j k hj hk=>?_
       by_cases hji:j=i
       · subst hji
         have e:a0a l j k=(a1r x j).getD k .undef:=by unfold a0a;rw [he]
         rw [if_pos ⟨rfl,hk⟩,if_pos (by omega),e]
         exact .refl _
       · rw [if_neg (fun h=>hji h.1)]
         by_cases hj2:j < i
         · rw [if_pos hj2,if_pos (by omega),b8s]
           · exact .refl _
           · intro k h
             subst h;simp [hji]
         · rw [if_neg (by omega),if_neg (by omega)];exact .undef _
     · intro k j hk
       by_cases hji:j=i
       · subst hji
         have e:a1o l k j=a2n x k:=by unfold a1o;rw [he]
         simp [hk,t7,A0]
         rw [e]
         rcases a41 x k with ⟨h,E,sz,xs,e⟩ | ⟨h,_⟩
         · subst h;simp [a2n]<;>exact .refl _
         · rw [h];exact .dead _
       · simp [hk,t7,A0,hji]
         by_cases hj2:j < i
         · rw [if_pos hj2,if_pos (by omega),c15];exact .refl _
         · rw [if_neg (by omega),if_neg (by omega)];exact .dead _
   · have e:i=l.length:=by omega
     subst e
     simp [num,t7,A0]
     refine c43 [(DN 2 0,7,a0q l)] (fun k j=>a1o l k j) ?_ ?_ ?_ ?_ ?_ ?_
     · intro k j hk
       simp [a6u,U6,hk]
     · simp [ioL,PV.ren,T9,a4y]
     · intro e he
       rw [List.mem_singleton.1 he]
       refine ⟨by simp,by simp,?_⟩
       have:(a0q l).ren (ioL [(DN 2 0,7,a0q l)])=a0q l:=(b7g l (S:=TD (fun k i=>(k == 9))) fun k j h=>by subst h;simp).1 _ fun x hx=>by
        refine b9d fun e he=>?_
        rw [List.mem_singleton.1 he]
        rintro rfl
        simp at hx
       rw [this]
       simp [t7,A0,a0q]
       funext j k
       by_cases hj:j < l.length
       · rw [if_pos hj]
       · rw [if_neg hj];unfold a0a;rw [List.getElem?_eq_none (by omega)]
     · simp
     · intro e he
       rw [List.mem_singleton.1 he];simp
     · intro k j hk hl _
       rcases a62 l k j with ⟨_,hj,E,sz,xs,e⟩ | e
       · simp [t7,A0,hk,hj]
         rw [e];rfl
       · rw [e] at hl;cases hl
def Z9 (l:List LWire) (j k:Nat):PV:=match l[j]? with
 | some x=>(a04 x j).getD k .undef
 | none=>.undef
def a2o (l:List LWire):MObj:=.prow 77 7 l.length (Z9 l)
def a1n (l:List LWire) (k j:Nat):MObj:=match l[j]? with
 | some x=>a1j x k
 | none=>.dead
theorem c8z (x:LWire) (j k:Nat):(∃ r,(a04 x j).getD k .undef=.val r)∨(a04 x j).getD k .undef=.undef∨(∃ k',(k'=10)∧(a04 x j).getD k .undef=.own (DN k' j)):=by
 unfold a04
 by_cases h:k < 7
 · have:k=0∨k=1∨k=2∨k=3∨k=4∨k=5∨k=6:=by omega
   rcases this with rfl | rfl | rfl | rfl | rfl | rfl | rfl<;>simp
 · rw [List.getD_eq_getElem?_getD,List.getElem?_eq_none (by simp;omega)]
   exact .inr (.inl rfl)
theorem b4q (l:List LWire) (j k:Nat):(∃ r,Z9 l j k=.val r)∨Z9 l j k=.undef∨(∃ k',(k'=10)∧Z9 l j k=.own (DN k' j)):=by
 unfold Z9
 cases l[j]? with
 | none=>exact .inr (.inl rfl)
 | some x=>exact c8z x j k
theorem b8r (l:List LWire) (j k:Nat) (d:Nat→Bool) (h:∀ k',(k'=10)→d (DN k' j)=false):(Z9 l j k).kill d=Z9 l j k:=by
 rcases b4q l j k with ⟨r,e⟩ | e | ⟨k',hk,e⟩<;>rw [e]<;>simp only [PV.kill]
 rw [h k' hk];rfl
theorem a61 (l:List LWire) (k j:Nat):((k=10)∧j < l.length∧∃ E sz xs,a1n l k j=.row E sz xs)∨a1n l k j=.dead:=by
 unfold a1n
 by_cases h:j < l.length
 · rw [List.getElem?_eq_getElem h]
   rcases a40 l[j] k with ⟨h',e⟩ | ⟨h,_⟩
   · exact .inl ⟨h',h,e⟩
   · exact .inr h
 · rw [List.getElem?_eq_none (by omega)];exact .inr rfl
theorem c14 (l:List LWire) (k j:Nat) (d:Nat→Bool):(a1n l k j).kill d=a1n l k j:=by
 rcases a61 l k j with ⟨_,_,E,sz,xs,e⟩ | e<;>rw [e]<;>rfl
theorem b7f (l:List LWire) {S:Nat→Bool} (h:∀ k j,(k=10)→S (DN k j)=true):(a2o l).onT S:=by
 refine b4n fun j k=>?_
 rcases b4q l j k with ⟨r,e⟩ | e | ⟨k',hk,e⟩
 · exact .inl ⟨r,e⟩
 · exact .inr (.inl e)
 · exact .inr (.inr (.inr ⟨_,e,h k' j hk⟩))
def W9 (l:List LWire) (k i:Nat):MObj:=if k=4∧i=0 then a2o l else a1n l k i
theorem a84 (l:List LWire) (k i:Nat) {S:Nat→Bool} (hS:∀ k j,(k=10)→S (DN k j)=true) (h:(W9 l k i).live=true):((k == 10) || (k == 4 && i == 0))=true∧(W9 l k i).onT S∧∀ cs,W9 l k i≠.box cs:=by
 unfold W9 at h ⊢
 by_cases h0:k=4∧i=0
 · rw [if_pos h0]
   exact ⟨by simp [h0],b7f l hS,fun cs h=>by cases h⟩
 · rw [if_neg h0] at h ⊢
   rcases a61 l k i with ⟨h',_,E,sz,xs,e⟩ | e
   · rw [e]
     refine ⟨?_,U0,fun cs h=>by cases h⟩
     subst h';simp
   · rw [e] at h;cases h
theorem b1y (l:List LWire) (k i:Nat) {S:Nat→Bool} (hS:∀ k j,(k=10)→S (DN k j)=true):(W9 l k i).onT S:=by
 cases hl:(W9 l k i).live with
 | true=>exact (a84 l k i hS hl).2.1
 | false=>cases hm:W9 l k i<;>rw [hm] at hl<;>first | exact Y4 | cases hl
theorem a7w (l:List LWire) (k i:Nat) (d:Nat→Bool) (h:∀ k j,(k=10)→d (DN k j)=false):(W9 l k i).kill d=W9 l k i:=
 (b1y l k i (S:=fun x=>!d x) fun k j hk=>by simp [h k j hk]).2 d fun x hx=>by simpa using hx
theorem c8j (l:List LWire) (hx:bdS 1048576 (Z2 1048576) l):R1 Tryz.prog 40 [.val (.list 7 (l.map H6))] (fun _=>.dead) (fun _=>false) (.own (DN 4 0)) (dyn (W9 l)):=by
 refine X2 mixed okp40 (fun i h=>by cases h) (fun i h=>by cases h) ?_
 unfold irp40
 rw [b6]
 have hl:l.length≤1048576:=hx.1
 simp [num,G3]
 refine ⟨by omega,by omega,?_⟩
 refine j8 (X:=Nat) (fun i=>⟨t6 [(0,.val (.list 7 (l.map H6))),(3,.own 7),(4,.val (num i))],b03 [(7,.prow 77 7 l.length fun j k=>if j < i then Z9 l j k else .undef)] (fun k j=>if j < i then a1n l k j else .dead)⟩) (fun i=>i≤l.length) (fun i=>l.length - i) 0 (Le.mkDN _ _ _ ?_ ?_ ?_) (Nat.zero_le _) ?_
 · simp [upd,num,PV.kill]
 · intro kp hkp
   rw [List.mem_singleton.1 hkp]
   simp [upd]
   refine .rowp _ _ _ _ _ (by simp) fun j k hj hk=>?_
   exact .undef _
 · intro k j hk
   simp
   exact .dead _
 · intro i hi
   simp [num,t7,A0]
   refine f8 (fun h1=>?_) (fun h1=>?_)
   · obtain ⟨x,hxe⟩:∃ x,l[i]=x:=⟨_,rfl⟩
     have he:l[i]?=some x:=by rw [List.getElem?_eq_getElem h1,hxe]
     have hbx:Z2 1048576 x:=by rw [← hxe];exact hx.2 _ (List.getElem_mem h1)
     simp [num,h1,he,hxe,t7,A0,H6]
     refine a3m (rs:=[H6 x]) (fun k' i'=>(k' == 10) && i' == i) rfl (d1e x i hbx) ?_ ?_ ?_
     · intro k' i' hk hl
       by_cases h:i'=i
       · subst h
         rw [if_pos rfl] at hl ⊢
         rcases a40 x k' with ⟨h,E,sz,xs,e⟩ | ⟨h,_⟩
         · rw [e];exact ⟨by subst h;simp,U0,fun cs h=>by cases h⟩
         · rw [h] at hl;cases hl
       · rw [if_neg h] at hl;cases hl
     · refine b7w x i fun k h=>?_
       subst h;simp
     simp [num,tx,h1,he,t7,A0,a04,a1j]
     refine LoopNext.mk (i+1) h1 (by omega) (Le.mkDN _ _ _ ?_ ?_ ?_)
     · simp [num]
       exact wrap_i64 (by omega) (by omega)
     · intro kp hkp
       rw [List.mem_singleton.1 hkp]
       simp [t7,A0]
       refine .prow _ _ _ _ _ fun j k hj hk=>?_
       by_cases hji:j=i
       · subst hji
         have e:Z9 l j k=(a04 x j).getD k .undef:=by unfold Z9;rw [he]
         rw [if_pos ⟨rfl,hk⟩,if_pos (by omega),e]
         exact .refl _
       · rw [if_neg (fun h=>hji h.1)]
         by_cases hj2:j < i
         · rw [if_pos hj2,if_pos (by omega),b8r]
           · exact .refl _
           · intro k h
             subst h;simp [hji]
         · rw [if_neg (by omega),if_neg (by omega)];exact .undef _
     · intro k j hk
       by_cases hji:j=i
       · subst hji
         have e:a1n l k j=a1j x k:=by unfold a1n;rw [he]
         simp [hk,t7,A0]
         rw [e]
         rcases a40 x k with ⟨h,E,sz,xs,e⟩ | ⟨h,_⟩
         · subst h;simp [a1j]<;>exact .refl _
         · rw [h];exact .dead _
       · simp [hk,t7,A0,hji]
         by_cases hj2:j < i
         · rw [if_pos hj2,if_pos (by omega),c14];exact .refl _
         · rw [if_neg (by omega),if_neg (by omega)];exact .dead _
   · have e:i=l.length:=by omega
     subst e
     simp [num,t7,A0]
     refine c43 [(DN 4 0,7,a2o l)] (fun k j=>a1n l k j) ?_ ?_ ?_ ?_ ?_ ?_
     · intro k j hk
       simp [a6u,W9,hk]
     · simp [ioL,PV.ren,T9,a4y]
     · intro e he
       rw [List.mem_singleton.1 he]
       refine ⟨by simp,by simp,?_⟩
       have:(a2o l).ren (ioL [(DN 4 0,7,a2o l)])=a2o l:=(b7f l (S:=TD (fun k i=>(k == 10))) fun k j h=>by subst h;simp).1 _ fun x hx=>by
        refine b9d fun e he=>?_
        rw [List.mem_singleton.1 he]
        rintro rfl
        simp at hx
       rw [this]
       simp [t7,A0,a2o]
       funext j k
       by_cases hj:j < l.length
       · rw [if_pos hj]
       · rw [if_neg hj];unfold Z9;rw [List.getElem?_eq_none (by omega)]
     · simp
     · intro e he
       rw [List.mem_singleton.1 he];simp
     · intro k j hk hl _
       rcases a61 l k j with ⟨_,hj,E,sz,xs,e⟩ | e
       · simp [t7,A0,hk,hj]
         rw [e];rfl
       · rw [e] at hl;cases hl
end Go.Proofs
end
section
namespace Go.Proofs
open Go.PW Go.KP
attribute [local simp] RV.cells RV.one PV.cells PV.solid PV.one G3 i7 L8 L5 RV.ofCells elems PV.killL
variable [GF]
attribute [local simp] a7h b3e c0v c0w c0u b7h a4m b5u a96 b70 b2j b6h b0p
def a3h (p:LPolicy):List PV:=[.val (tx p.reportTo),.own (DN 1 0),.own (DN 2 0)]
def O9 (p:LPolicy) (k i:Nat):MObj:=if k=1∧i=0 then .row 9 1 (p.uris.map tx) else U6 p.rules k i
theorem a5j (p:LPolicy) (k i:Nat) {S:Nat→Bool} (hS:∀ k j,(k=9)→S (DN k j)=true) (h:(O9 p k i).live=true):(k == 1 && i == 0 || k == 9 || k == 2 && i == 0)=true∧(O9 p k i).onT S∧∀ cs,O9 p k i≠.box cs:=by
 unfold O9 at h ⊢
 by_cases h0:k=1∧i=0
 · rw [if_pos h0]
   exact ⟨by simp [h0],U0,fun cs h=>by cases h⟩
 · rw [if_neg h0] at h ⊢
   obtain ⟨h1,h2,h3⟩:=a6f p.rules k i hS h
   refine ⟨?_,h2,h3⟩
   simp only [Bool.or_eq_true] at h1 ⊢
   rcases h1 with h1 | h1
   · exact .inl (.inr h1)
   · exact .inr h1
theorem a5i (p:LPolicy) (k i:Nat) {S:Nat→Bool} (hS:∀ k j,(k=9)→S (DN k j)=true):(O9 p k i).onT S:=by
 cases hl:(O9 p k i).live with
 | true=>exact (a5j p k i hS hl).2.1
 | false=>cases hm:O9 p k i<;>rw [hm] at hl<;>first | exact Y4 | cases hl
theorem a30 (p:LPolicy) (k i:Nat) (d:Nat→Bool) (h:∀ k j,(k=9)→d (DN k j)=false):(O9 p k i).kill d=O9 p k i:=
 (a5i p k i (S:=fun x=>!d x) fun k j hk=>by simp [h k j hk]).2 d fun x hx=>by simpa using hx
theorem c48 (p:LPolicy) (hx:a0g 1048576 p):R1 Tryz.prog 38 [.val (w8 p)] (fun _=>.dead) (fun _=>false) (.agg (a3h p)) (dyn (O9 p)):=by
 refine X2 mixed ok38 (fun i h=>by cases h) (fun i h=>by cases h) ?_
 unfold ir38
 rw [b6]
 obtain ⟨b0,b1,b2⟩:=hx
 simp [w8,tx,num]
 refine a3m (rs:=[.list 1 (p.uris.map tx)]) (fun k i=>k == 1 && i == 0) rfl (a8h p.uris 1 0 (by omega) b1) ?_ ?_ ?_
 · intro k i hk hl
   by_cases h:k=1∧i=0
   · rw [if_pos h]
     exact ⟨by simp [h],U0,fun cs h=>by cases h⟩
   · rw [if_neg h] at hl;cases hl
 · exact O6 (by simp)
 simp [w8,tx,num]
 refine a3m (rs:=[.list 2 (p.rules.map l5)]) (fun k i=>k == 9 || k == 2 && i == 0) rfl (c8k p.rules b2) (fun k i hk hl=>a6f p.rules k i (fun k j h=>by subst h;simp) hl) (O6 (by simp)) ?_
 simp [w8,tx,num,U6,a0q]
 refine b0d _ ?_ ?_ ?_ ?_
 · simp [a3h,tx,num,T9,a4y]
 · intro k i hk hl
   by_cases h1:k=1∧i=0
   · obtain ⟨rfl,rfl⟩:=h1;simp [O9]
   · have e:O9 p k i=U6 p.rules k i:=by unfold O9;rw [if_neg h1]
     rw [e] at hl ⊢
     have h2:=(a6f p.rules k i (S:=fun _=>true) (fun _ _ _=>rfl) hl).1
     simp at h2
     simp [hk,h2]
     try simp [U6,a0q]
 · exact a2c fun q hq=>by
    simp only [a3h,List.mem_cons,List.not_mem_nil,or_false] at hq
    rcases hq with rfl | rfl | rfl
    · exact S5
    · exact O6 (by simp)
    · exact O6 (by simp)
 · intro k i hk
   exact a5i p k i fun k j h=>by simp
def a3z (p:LPipe):List PV:=[.own (DN 0 0),.val (tx p.policy.reportTo),.own (DN 1 0),.own (DN 2 0),.val (num p.now),.val (num p.next),.own (DN 3 0),.own (DN 4 0)]
def Q8 (p:LPipe) (k i:Nat):MObj:=
 if k=3∧i=0 then .row 83 3 (p.log.map A1) else if k=1∧i=0∨k=2∧i=0∨k=9 then O9 p.policy k i else if k=4∧i=0∨k=10 then W9 p.wires k i else P1 p.channels k i
def a0m (k i:Nat):Bool:=decide (k < 5) && i == 0 || decide (5≤k) && decide (k < 11)
theorem c2c (p:LPipe) (hx:Z3 1048576 p):R1 Tryz.prog 11 [.val (G1 p)] (fun _=>.dead) (fun _=>false) (.agg (a3z p)) (dyn (Q8 p)):=by
 refine X2 mixed ok11 (fun i h=>by cases h) (fun i h=>by cases h) ?_
 unfold ir11
 rw [b6]
 obtain ⟨b0,b1,b2,b3⟩:=hx
 simp [G1,tx,num]
 refine a3m (rs:=[.list 6 (p.channels.map j7)]) (fun k i=>(k == 5 || k == 6 || k == 7 || k == 8) || k == 0 && i == 0) rfl (b9o p.channels b0) (fun k i hk hl=>a1x p.channels k i (fun k j h=>by rcases h with rfl | rfl | rfl | rfl<;>simp) hl) (O6 (by simp)) ?_
 simp [tx,num,P1,U7]
 refine a3m (rs:=[w8 p.policy]) (fun k i=>k == 1 && i == 0 || k == 9 || k == 2 && i == 0) rfl (c48 p.policy b1) (fun k i hk hl=>a5j p.policy k i (fun k j h=>by subst h;simp) hl) ?_ ?_
 · exact a2c fun q hq=>by
    simp only [a3h,List.mem_cons,List.not_mem_nil,or_false] at hq
    rcases hq with rfl | rfl | rfl
    · exact S5
    · exact O6 (by simp)
    · exact O6 (by simp)
 simp [tx,num,O9,U6,a0q,a3h]
 refine a3m (rs:=[.list 3 (p.log.map A1)]) (fun k i=>k == 3 && i == 0) rfl (c49 p.log 3 0 (by omega) b2) ?_ ?_ ?_
 · intro k i hk hl
   by_cases h:k=3∧i=0
   · rw [if_pos h]
     exact ⟨by simp [h],U0,fun cs h=>by cases h⟩
   · rw [if_neg h] at hl;cases hl
 · exact O6 (by simp)
 simp [tx,num]
 refine a3m (rs:=[.list 7 (p.wires.map H6)]) (fun k i=>(k == 10) || k == 4 && i == 0) rfl (c8j p.wires b3) (fun k i hk hl=>a84 p.wires k i (fun k j h=>by subst h;simp) hl) (O6 (by simp)) ?_
 simp [tx,num,W9,a2o,O9,U6,a0q,P1,U7]
 refine b0d _ ?_ ?_ ?_ ?_
 · simp [a3z,tx,num,T9,a4y]
 · intro k i hk hl
   have c1:∀ (k j:Nat),(k=5∨k=6∨k=7∨k=8)→nK (fun k i=>(k == 10) || k == 4 && i == 0) (DN k j)=false:=fun k j h=>by rcases h with rfl | rfl | rfl | rfl<;>simp
   have c2:∀ (k j:Nat),(k=5∨k=6∨k=7∨k=8)→nK (fun k i=>k == 3 && i == 0) (DN k j)=false:=fun k j h=>by rcases h with rfl | rfl | rfl | rfl<;>simp
   have c3:∀ (k j:Nat),(k=5∨k=6∨k=7∨k=8)→nK (fun k i=>k == 1 && i == 0 || k == 9 || k == 2 && i == 0) (DN k j)=false:=fun k j h=>by rcases h with rfl | rfl | rfl | rfl<;>simp
   have r1:∀ (k j:Nat),k=9→nK (fun k i=>(k == 10) || k == 4 && i == 0) (DN k j)=false:=fun k j h=>by subst h;simp
   have r2:∀ (k j:Nat),k=9→nK (fun k i=>k == 3 && i == 0) (DN k j)=false:=fun k j h=>by subst h;simp
   by_cases h1:k=3∧i=0
   · obtain ⟨rfl,rfl⟩:=h1;simp [Q8]
   by_cases h2:k=1∧i=0∨k=2∧i=0∨k=9
   · have e:Q8 p k i=O9 p.policy k i:=by unfold Q8;rw [if_neg h1,if_pos h2]
     rw [e] at hl ⊢
     have h3:¬ (k=4∧i=0)∧¬ k=10∧¬ (k=3∧i=0):=by omega
     have h4:(k=1∧i=0∨k=9)∨k=2∧i=0:=by omega
     simp [hk,h3,h4]
     rw [a30 _ _ _ _ r2,a30 _ _ _ _ r1]
   by_cases h3:k=4∧i=0∨k=10
   · have e:Q8 p k i=W9 p.wires k i:=by unfold Q8;rw [if_neg h1,if_neg h2,if_pos h3]
     rw [e] at hl ⊢
     have h4:k=10∨k=4∧i=0:=by omega
     simp [hk,h4]
   · have e:Q8 p k i=P1 p.channels k i:=by unfold Q8;rw [if_neg h1,if_neg h2,if_neg h3]
     rw [e] at hl ⊢
     have h5:=(a1x p.channels k i (S:=fun _=>true) (fun _ _ _=>rfl) hl).1
     simp at h5
     have h4:¬ (k=10∨k=4∧i=0):=by omega
     have h6:¬ ((k=1∧i=0∨k=9)∨k=2∧i=0):=by omega
     simp only [x9,F6,y4,F4,y5,q7,y0,F5,l7,A6,G7,G8,j6,p5,p6,l1,y6,p9,l3,F3,x8,p8,p7,D4,D5,a0u,a0v,Option.getD_some,Option.getD_none,C1,u0,o5,D1,o4,n8,D3,n9,D2,D0,C9,H2,w6,o2,C7,v8,o1,C6,B9,C8,w5,C4,n7,v7,C5,H4,H3,C0,C2,o0,C3,w7,o3,A9,l9,B8,B7,B6,G9,u9,n0,B4,u6,m8,B3,A7,B5,u7,B1,l8,u5,B2,H1,H0,A8,u4,n6,B0,v6,n5,J2,J1,K5,J3,J7,J5,J4,K4,J6,J8,J9,K2,K3,y9,y8,y7,M0,M1,z7,F7,u1,D9,x1,K7,q8,Q1,M4,L6,N6,N8,N7,Q2,Q3,I4,I6,I5,I7,I8,N3,x3,N2,E1,E2,E3,x4,a0x,F0,x7,P9,Q0,H5,M2,M3,Option.map_some,Option.map_none,E4,x5,w9,o6,D7,D8,H8,H7,O3,O2,J0,F1,F2,I9,N9,O0,I0,o8,I1,o7,M7,E9,E8,l2,N5,O1,I3,M9,N1,N0,x2,A3,A5,A4,k7,N4,Q5,Q4,M5,I2,U4,M6,o9,E6,E7,x6,E5,l0,u2,k9,u3,k8,K6,O4,O5,z1,z6,F9,F8,D6,z7,b70,b2j,b7h hk]
     simp [hk,h1,h4,h6,h5]
     rw [a28 _ _ _ _ c3,a28 _ _ _ _ c2,a28 _ _ _ _ c1]
 · exact a2c fun q hq=>by
    simp only [a3z,List.mem_cons,List.not_mem_nil,or_false] at hq
    rcases hq with rfl | rfl | rfl | rfl | rfl | rfl | rfl | rfl
    · exact O6 (by simp)
    · exact S5
    · exact O6 (by simp)
    · exact O6 (by simp)
    · exact S5
    · exact S5
    · exact O6 (by simp)
    · exact O6 (by simp)
 · intro k i hk
   unfold Q8
   split
   · exact U0
   split
   · exact a5i p.policy k i fun k j h=>by simp
   split
   · exact b1y p.wires k i fun k j h=>by simp
   · exact a6w p.channels k i fun k j h=>by simp
end Go.Proofs
end
section
namespace Go.Proofs
open Go.PW Go.KP
attribute [local simp] RV.cells RV.one PV.cells PV.solid PV.one G3 i7 L8 L5 RV.ofCells elems PV.killL
variable [GF]
attribute [local simp] a7h b3e c0v c0w c0u b7h a4m b5u a96 b70 b2j b6h b0p
theorem c2f (l:List LRule) (k:Nat) (hx:bdS 1048576 (X6 1048576) l) (hk:k+G4 Y7 l < 8388608):R1 Tryz.prog 99 [.own (DN 2 0),.val (num k)] (dyn (U6 l)) (fun _=>false) (.val (num ((k+G4 Y7 l:Nat):Int))) (fun _=>.dead):=by
 refine X2 mixed okp99 (fun i h=>a8f h) (fun i h=>by cases h) ?_
 unfold irp99
 rw [b6]
 have hl:l.length≤1048576:=hx.1
 simp [num]
 refine j8 (X:=Nat) (fun i=>⟨t6 [(0,.own (DN 2 0)),(1,.val (num ((k+G4 Y7 (l.take i):Nat):Int))),(5,.val (num i))],b03 [] (fun k' j=>if k'=2∧j=0 then .prow 154 2 l.length (fun j k=>if i≤j then a0a l j k else .undef) else if i≤j then a1o l k' j else .dead)⟩) (fun i=>i≤l.length) (fun i=>l.length - i) 0 (Le.mkDN _ _ _ ?_ ?_ ?_) (Nat.zero_le _) ?_
 · simp [upd,num,PV.kill,G4]
 · intro kp hkp;cases hkp
 · intro k' j hk'
   simp [hk',U6,a0q]
   exact .refl _
 · intro i hi
   unfold irp99_l6
   by_cases h1:i < l.length
   · obtain ⟨x,hxe⟩:∃ x,l[i]=x:=⟨_,rfl⟩
     have he:l[i]?=some x:=by rw [List.getElem?_eq_getElem h1,hxe]
     have hbx:X6 1048576 x:=by rw [← hxe];exact hx.2 _ (List.getElem_mem h1)
     have ho:∀ k,a0a l i k=(a1r x i).getD k .undef:=fun k=>by unfold a0a;rw [he]
     have hf:∀ k,a1o l k i=a2n x k:=fun k=>by unfold a1o;rw [he]
     have hst:G4 Y7 (l.take (i+1))=G4 Y7 (l.take i)+Y7 x:=by rw [a08 _ h1,hxe]
     have hle:=a31 (f:=Y7) l (i+1)
     obtain ⟨m0,hm0⟩:∃ m,k+G4 Y7 (l.take i)=m:=⟨_,rfl⟩
     have q1:x.words.length≤1048576:=hbx.2.1
     obtain ⟨m1,hm1⟩:∃ m,m0+1=m:=⟨_,rfl⟩
     obtain ⟨m2,hm2⟩:∃ m,m1+1*x.words.length=m:=⟨_,rfl⟩
     have hcx:Y7 x=1+x.words.length:=rfl
     have hlast:k+G4 Y7 (l.take (i+1))=m2:=by omega
     have s0:IntKind.i64.wrap ((m0:Int)+1)=(m1:Int):=by rw [wrap_i64 (by omega) (by omega)];omega
     have hk0:=a03 m0 (by omega)
     have hk1:=a5z x.words m1 (by omega) q1
     rw [hm2] at hk1
     rw [hm0]
     simp [num,tx,h1,ho,hf,t7,A0,a1r,a2n,s0]
     refine b7 rfl rfl (.inl rfl) hk0 ?_
     simp [num,tx,h1,ho,hf,t7,A0,a1r,a2n,s0]
     refine b8f (by simp [PV.plain1]) rfl rfl rfl hk1 rfl ?_
     simp [num,tx,h1,ho,hf,t7,A0,a1r,a2n,s0]
     refine LoopNext.mk (i+1) h1 (by omega) (Le.mkDN _ _ _ ?_ ?_ ?_)
     · simp only [hlast]
       simp [num,s0]
       exact wrap_i64 (by omega) (by omega)
     · intro kp hkp;cases hkp
     · intro k' j hk'
       by_cases h0:k'=2∧j=0
       · obtain ⟨rfl,rfl⟩:=h0
         simp [t7,A0]
         refine .prow _ _ _ _ _ fun j k hj hk=>?_
         by_cases hji:j=i
         · rw [if_neg (show ¬ i+1≤j by omega)];exact .undef _
         · simp [hji]
           by_cases hj2:i≤j
           · rw [if_pos hj2,if_pos (by omega)];exact .refl _
           · rw [if_neg hj2,if_neg (by omega)];exact .undef _
       · rw [if_neg h0]
         by_cases hji:j=i
         · rw [if_neg (show ¬ i+1≤j by omega)];exact .dead _
         · simp [hk',t7,A0,hji,h0]
           by_cases hj2:i≤j
           · rw [if_pos hj2,if_pos (by omega)];exact .refl _
           · rw [if_neg hj2,if_neg (by omega)];exact .refl _
   · have e:i=l.length:=by omega
     subst e
     simp [num,t7,A0]
     refine b5n ?_
     simp [T9,a4y]
theorem c9s {M:Nat→MObj} (l:List LRule) (h0:M (DN 2 0)=a0q l) (h:∀ k j,k < 16→(a1o l k j).live=true→M (DN k j)=a1o l k j):Res M (.own (DN 2 0)) (.list 2 (l.map l5)):=by
 refine .prow _ _ _ _ (a0a l) _ h0 (by simp) (fun x hx=>?_) fun j k hj hk=>?_
 · obtain ⟨y,_,rfl⟩:=List.mem_map.1 hx
   rfl
 have he:l[j]?=some l[j]:=List.getElem?_eq_getElem hj
 have e1:a0a l j k=(a1r l[j] j).getD k .undef:=by unfold a0a;rw [he]
 have e2:(l.map l5).getD j .nilptr=l5 l[j]:=by simp [List.getD_eq_getElem?_getD,he]
 rw [e1,e2]
 generalize l[j]=x at he ⊢
 have:k=0∨k=1:=by omega
 rcases this with rfl | rfl
 · exact .val _
 · exact .row _ 9 _ _ (by rw [h 9 j (by omega) (by unfold a1o;rw [he];rfl)];unfold a1o;rw [he];rfl)
theorem c2e (l:List LWire) (k:Nat) (hx:bdS 1048576 (Z2 1048576) l) (hk:k+G4 a0p l < 8388608):R1 Tryz.prog 55 [.own (DN 4 0),.val (num k)] (dyn (W9 l)) (fun _=>false) (.val (num ((k+G4 a0p l:Nat):Int))) (fun _=>.dead):=by
 refine X2 mixed okp55 (fun i h=>a8f h) (fun i h=>by cases h) ?_
 unfold irp55
 rw [b6]
 have hl:l.length≤1048576:=hx.1
 simp [num]
 refine j8 (X:=Nat) (fun i=>⟨t6 [(0,.own (DN 4 0)),(1,.val (num ((k+G4 a0p (l.take i):Nat):Int))),(5,.val (num i))],b03 [] (fun k' j=>if k'=4∧j=0 then .prow 77 7 l.length (fun j k=>if i≤j then Z9 l j k else .undef) else if i≤j then a1n l k' j else .dead)⟩) (fun i=>i≤l.length) (fun i=>l.length - i) 0 (Le.mkDN _ _ _ ?_ ?_ ?_) (Nat.zero_le _) ?_
 · simp [upd,num,PV.kill,G4]
 · intro kp hkp;cases hkp
 · intro k' j hk'
   simp [hk',W9,a2o]
   exact .refl _
 · intro i hi
   unfold irp55_l6
   by_cases h1:i < l.length
   · obtain ⟨x,hxe⟩:∃ x,l[i]=x:=⟨_,rfl⟩
     have he:l[i]?=some x:=by rw [List.getElem?_eq_getElem h1,hxe]
     have hbx:Z2 1048576 x:=by rw [← hxe];exact hx.2 _ (List.getElem_mem h1)
     have ho:∀ k,Z9 l i k=(a04 x i).getD k .undef:=fun k=>by unfold Z9;rw [he]
     have hf:∀ k,a1n l k i=a1j x k:=fun k=>by unfold a1n;rw [he]
     have hst:G4 a0p (l.take (i+1))=G4 a0p (l.take i)+a0p x:=by rw [a08 _ h1,hxe]
     have hle:=a31 (f:=a0p) l (i+1)
     obtain ⟨m0,hm0⟩:∃ m,k+G4 a0p (l.take i)=m:=⟨_,rfl⟩
     have q4:x.ids.length≤1048576:=hbx.2.2.1
     obtain ⟨m1,hm1⟩:∃ m,m0+1=m:=⟨_,rfl⟩
     obtain ⟨m2,hm2⟩:∃ m,m1+1=m:=⟨_,rfl⟩
     obtain ⟨m3,hm3⟩:∃ m,m2+1=m:=⟨_,rfl⟩
     obtain ⟨m4,hm4⟩:∃ m,m3+1=m:=⟨_,rfl⟩
     obtain ⟨m5,hm5⟩:∃ m,m4+1*x.ids.length=m:=⟨_,rfl⟩
     obtain ⟨m6,hm6⟩:∃ m,m5+1=m:=⟨_,rfl⟩
     obtain ⟨m7,hm7⟩:∃ m,m6+1=m:=⟨_,rfl⟩
     have hcx:a0p x=6+x.ids.length:=rfl
     have hlast:k+G4 a0p (l.take (i+1))=m7:=by omega
     have s0:IntKind.i64.wrap ((m0:Int)+1)=(m1:Int):=by rw [wrap_i64 (by omega) (by omega)];omega
     have s1:IntKind.i64.wrap ((m1:Int)+1)=(m2:Int):=by rw [wrap_i64 (by omega) (by omega)];omega
     have s2:IntKind.i64.wrap ((m2:Int)+1)=(m3:Int):=by rw [wrap_i64 (by omega) (by omega)];omega
     have hk2:=a03 m2 (by omega)
     have s3:IntKind.i64.wrap ((m3:Int)+1)=(m4:Int):=by rw [wrap_i64 (by omega) (by omega)];omega
     have hk3:=a03 m3 (by omega)
     have hk4:=b5f x.ids m4 (by omega) q4
     rw [hm5] at hk4
     have s5:IntKind.i64.wrap ((m5:Int)+1)=(m6:Int):=by rw [wrap_i64 (by omega) (by omega)];omega
     have hk5:=a03 m5 (by omega)
     have s6:IntKind.i64.wrap ((m6:Int)+1)=(m7:Int):=by rw [wrap_i64 (by omega) (by omega)];omega
     rw [hm0]
     simp [num,tx,h1,ho,hf,t7,A0,a04,a1j,s0,s1,s2,s3,s5,s6]
     refine b7 rfl rfl (.inl rfl) hk2 ?_
     simp [num,tx,h1,ho,hf,t7,A0,a04,a1j,s0,s1,s2,s3,s5,s6]
     refine b7 rfl rfl (.inl rfl) hk3 ?_
     simp [num,tx,h1,ho,hf,t7,A0,a04,a1j,s0,s1,s2,s3,s5,s6]
     refine b8f (by simp [PV.plain1]) rfl rfl rfl hk4 rfl ?_
     simp [num,tx,h1,ho,hf,t7,A0,a04,a1j,s0,s1,s2,s3,s5,s6]
     refine b7 rfl rfl (.inl rfl) hk5 ?_
     simp [num,tx,h1,ho,hf,t7,A0,a04,a1j,s0,s1,s2,s3,s5,s6]
     refine LoopNext.mk (i+1) h1 (by omega) (Le.mkDN _ _ _ ?_ ?_ ?_)
     · simp only [hlast]
       simp [num,s0,s1,s2,s3,s5,s6]
       exact wrap_i64 (by omega) (by omega)
     · intro kp hkp;cases hkp
     · intro k' j hk'
       by_cases h0:k'=4∧j=0
       · obtain ⟨rfl,rfl⟩:=h0
         simp [t7,A0]
         refine .prow _ _ _ _ _ fun j k hj hk=>?_
         by_cases hji:j=i
         · rw [if_neg (show ¬ i+1≤j by omega)];exact .undef _
         · simp [hji]
           by_cases hj2:i≤j
           · rw [if_pos hj2,if_pos (by omega)];exact .refl _
           · rw [if_neg hj2,if_neg (by omega)];exact .undef _
       · rw [if_neg h0]
         by_cases hji:j=i
         · rw [if_neg (show ¬ i+1≤j by omega)];exact .dead _
         · simp [hk',t7,A0,hji,h0]
           by_cases hj2:i≤j
           · rw [if_pos hj2,if_pos (by omega)];exact .refl _
           · rw [if_neg hj2,if_neg (by omega)];exact .refl _
   · have e:i=l.length:=by omega
     subst e
     simp [num,t7,A0]
     refine b5n ?_
     simp [T9,a4y]
theorem c9r {M:Nat→MObj} (l:List LWire) (h0:M (DN 4 0)=a2o l) (h:∀ k j,k < 16→(a1n l k j).live=true→M (DN k j)=a1n l k j):Res M (.own (DN 4 0)) (.list 7 (l.map H6)):=by
 refine .prow _ _ _ _ (Z9 l) _ h0 (by simp) (fun x hx=>?_) fun j k hj hk=>?_
 · obtain ⟨y,_,rfl⟩:=List.mem_map.1 hx
   rfl
 have he:l[j]?=some l[j]:=List.getElem?_eq_getElem hj
 have e1:Z9 l j k=(a04 l[j] j).getD k .undef:=by unfold Z9;rw [he]
 have e2:(l.map H6).getD j .nilptr=H6 l[j]:=by simp [List.getD_eq_getElem?_getD,he]
 rw [e1,e2]
 generalize l[j]=x at he ⊢
 have:k=0∨k=1∨k=2∨k=3∨k=4∨k=5∨k=6:=by omega
 rcases this with rfl | rfl | rfl | rfl | rfl | rfl | rfl
 · exact .val _
 · exact .val _
 · exact .val _
 · exact .val _
 · exact .row _ 3 _ _ (by rw [h 10 j (by omega) (by unfold a1n;rw [he];rfl)];unfold a1n;rw [he];rfl)
 · exact .val _
 · exact .val _
theorem b5w (l:List LChannel) (k:Nat) (hx:bdS 1048576 (Q9 1048576) l) (hk:k+G4 T2 l < 8388608):R1 Tryz.prog 53 [.own (DN 0 0),.val (num k)] (dyn (P1 l)) (fun _=>false) (.val (num ((k+G4 T2 l:Nat):Int))) (fun _=>.dead):=by
 refine X2 mixed okp53 (fun i h=>a8f h) (fun i h=>by cases h) ?_
 unfold irp53
 rw [b6]
 have hl:l.length≤1048576:=hx.1
 simp [num]
 refine j8 (X:=Nat) (fun i=>⟨t6 [(0,.own (DN 0 0)),(1,.val (num ((k+G4 T2 (l.take i):Nat):Int))),(5,.val (num i))],b03 [] (fun k' j=>if k'=0∧j=0 then .prow 120 6 l.length (fun j k=>if i≤j then S6 l j k else .undef) else if i≤j then Q6 l k' j else .dead)⟩) (fun i=>i≤l.length) (fun i=>l.length - i) 0 (Le.mkDN _ _ _ ?_ ?_ ?_) (Nat.zero_le _) ?_
 · simp [upd,num,PV.kill,G4]
 · intro kp hkp;cases hkp
 · intro k' j hk'
   simp [hk',P1,U7]
   exact .refl _
 · intro i hi
   unfold irp53_l6
   by_cases h1:i < l.length
   · obtain ⟨x,hxe⟩:∃ x,l[i]=x:=⟨_,rfl⟩
     have he:l[i]?=some x:=by rw [List.getElem?_eq_getElem h1,hxe]
     have hbx:Q9 1048576 x:=by rw [← hxe];exact hx.2 _ (List.getElem_mem h1)
     have ho:∀ k,S6 l i k=(S4 x i).getD k .undef:=fun k=>by unfold S6;rw [he]
     have hf:∀ k,Q6 l k i=T6 x k:=fun k=>by unfold Q6;rw [he]
     have hst:G4 T2 (l.take (i+1))=G4 T2 (l.take i)+T2 x:=by rw [a08 _ h1,hxe]
     have hle:=a31 (f:=T2) l (i+1)
     obtain ⟨m0,hm0⟩:∃ m,k+G4 T2 (l.take i)=m:=⟨_,rfl⟩
     have q2:x.group.targets.length≤1048576:=hbx.1.2.1
     have q3:x.peers.length≤1048576:=hbx.2.1.1
     have q4:x.queue.items.length≤1048576:=hbx.2.2.1.1
     have q5:x.queue.recent.length≤1048576:=hbx.2.2.2.1
     obtain ⟨m1,hm1⟩:∃ m,m0+1=m:=⟨_,rfl⟩
     obtain ⟨m2,hm2⟩:∃ m,m1+1=m:=⟨_,rfl⟩
     obtain ⟨m3,hm3⟩:∃ m,m2+3*x.group.targets.length=m:=⟨_,rfl⟩
     obtain ⟨m4,hm4⟩:∃ m,m3+6*x.peers.length=m:=⟨_,rfl⟩
     obtain ⟨m5,hm5⟩:∃ m,m4+4*x.queue.items.length=m:=⟨_,rfl⟩
     obtain ⟨m6,hm6⟩:∃ m,m5+1*x.queue.recent.length=m:=⟨_,rfl⟩
     have hcx:T2 x=2+3*x.group.targets.length+6*x.peers.length+4*x.queue.items.length+x.queue.recent.length:=rfl
     have hlast:k+G4 T2 (l.take (i+1))=m6:=by omega
     have s0:IntKind.i64.wrap ((m0:Int)+1)=(m1:Int):=by rw [wrap_i64 (by omega) (by omega)];omega
     have hk0:=a03 m0 (by omega)
     have s1:IntKind.i64.wrap ((m1:Int)+1)=(m2:Int):=by rw [wrap_i64 (by omega) (by omega)];omega
     have hk2:=b62 x.group.targets m2 (by omega) q2
     rw [hm3] at hk2
     have hk3:=c1r x.peers m3 (by omega) q3
     rw [hm4] at hk3
     have hk4:=b63 x.queue.items m4 (by omega) q4
     rw [hm5] at hk4
     have hk5:=a5z x.queue.recent m5 (by omega) q5
     rw [hm6] at hk5
     rw [hm0]
     simp [num,tx,h1,ho,hf,t7,A0,S4,T6,s0,s1]
     refine b7 rfl rfl (.inl rfl) hk0 ?_
     simp [num,tx,h1,ho,hf,t7,A0,S4,T6,s0,s1]
     refine b8f (by simp [PV.plain1]) rfl rfl rfl hk2 rfl ?_
     simp [num,tx,h1,ho,hf,t7,A0,S4,T6,s0,s1]
     refine b8f (by simp [PV.plain1]) rfl rfl rfl hk3 rfl ?_
     simp [num,tx,h1,ho,hf,t7,A0,S4,T6,s0,s1]
     refine b8f (by simp [PV.plain1]) rfl rfl rfl hk4 rfl ?_
     simp [num,tx,h1,ho,hf,t7,A0,S4,T6,s0,s1]
     refine b8f (by simp [PV.plain1]) rfl rfl rfl hk5 rfl ?_
     simp [num,tx,h1,ho,hf,t7,A0,S4,T6,s0,s1]
     refine LoopNext.mk (i+1) h1 (by omega) (Le.mkDN _ _ _ ?_ ?_ ?_)
     · simp only [hlast]
       simp [num,s0,s1]
       exact wrap_i64 (by omega) (by omega)
     · intro kp hkp;cases hkp
     · intro k' j hk'
       by_cases h0:k'=0∧j=0
       · obtain ⟨rfl,rfl⟩:=h0
         simp [t7,A0]
         refine .prow _ _ _ _ _ fun j k hj hk=>?_
         by_cases hji:j=i
         · rw [if_neg (show ¬ i+1≤j by omega)];exact .undef _
         · simp [hji]
           by_cases hj2:i≤j
           · rw [if_pos hj2,if_pos (by omega)];exact .refl _
           · rw [if_neg hj2,if_neg (by omega)];exact .undef _
       · rw [if_neg h0]
         by_cases hji:j=i
         · rw [if_neg (show ¬ i+1≤j by omega)];exact .dead _
         · simp [hk',t7,A0,hji,h0]
           by_cases hj2:i≤j
           · rw [if_pos hj2,if_pos (by omega)];exact .refl _
           · rw [if_neg hj2,if_neg (by omega)];exact .refl _
   · have e:i=l.length:=by omega
     subst e
     simp [num,t7,A0]
     refine b5n ?_
     simp [T9,a4y]
theorem c0h {M:Nat→MObj} (l:List LChannel) (h0:M (DN 0 0)=U7 l) (h:∀ k j,k < 16→(Q6 l k j).live=true→M (DN k j)=Q6 l k j):Res M (.own (DN 0 0)) (.list 6 (l.map j7)):=by
 refine .prow _ _ _ _ (S6 l) _ h0 (by simp) (fun x hx=>?_) fun j k hj hk=>?_
 · obtain ⟨y,_,rfl⟩:=List.mem_map.1 hx
   rfl
 have he:l[j]?=some l[j]:=List.getElem?_eq_getElem hj
 have e1:S6 l j k=(S4 l[j] j).getD k .undef:=by unfold S6;rw [he]
 have e2:(l.map j7).getD j .nilptr=j7 l[j]:=by simp [List.getD_eq_getElem?_getD,he]
 rw [e1,e2]
 generalize l[j]=x at he ⊢
 have:k=0∨k=1∨k=2∨k=3∨k=4∨k=5:=by omega
 rcases this with rfl | rfl | rfl | rfl | rfl | rfl
 · exact .val _
 · exact .val _
 · exact .row _ 162 _ _ (by rw [h 5 j (by omega) (by unfold Q6;rw [he];rfl)];unfold Q6;rw [he];rfl)
 · exact .row _ 164 _ _ (by rw [h 6 j (by omega) (by unfold Q6;rw [he];rfl)];unfold Q6;rw [he];rfl)
 · exact .row _ 146 _ _ (by rw [h 7 j (by omega) (by unfold Q6;rw [he];rfl)];unfold Q6;rw [he];rfl)
 · exact .row _ 9 _ _ (by rw [h 8 j (by omega) (by unfold Q6;rw [he];rfl)];unfold Q6;rw [he];rfl)
end Go.Proofs
end
section
namespace Go.Proofs
open Go.PW Go.KP
attribute [local simp] RV.cells RV.one PV.cells PV.solid PV.one G3 i7 L8 L5 RV.ofCells elems PV.killL
variable [GF]
attribute [local simp] a7h b3e c0v c0w c0u b7h a4m b5u a96 b70 b2j b6h b0p
theorem b9p (p:LPolicy) (k:Nat) (hx:a0g 1048576 p) (hk:k+p.uris.length+G4 Y7 p.rules < 8388608):R1 Tryz.prog 54 [.agg (a3h p),.val (num k)] (dyn (O9 p)) (fun _=>false) (.val (num ((k+p.uris.length+G4 Y7 p.rules:Nat):Int))) (fun _=>.dead):=by
 refine X2 mixed ok54 (fun i h=>a8f h) (fun i h=>by cases h) ?_
 unfold ir54
 rw [b6]
 obtain ⟨b0,b1,b2⟩:=hx
 have hl1:p.uris.length≤1048576:=b1.1
 have h1:=a5z p.uris k (by omega) hl1
 have h2:=c2f p.rules (k+p.uris.length) b2 (by omega)
 rw [Nat.one_mul] at h1
 obtain ⟨m,hm⟩:∃ m,k+p.uris.length=m:=⟨_,rfl⟩
 rw [hm] at h1 h2 ⊢
 simp [num,tx,a3h,O9,U6,a0q]
 refine b8f (by simp [PV.plain1]) rfl rfl rfl h1 rfl ?_
 simp [num,tx,a3h,O9,U6,a0q]
 refine c2l (G:=U6 p.rules) (fun k i=>k == 9 || k == 2 && i == 0) h2 ?_ ?_ ?_
 · intro q hq
   simp only [List.mem_cons,List.not_mem_nil,or_false] at hq
   rcases hq with rfl | rfl
   · exact O6 (by simp)
   · exact S5
 · intro k i hk' hl
   obtain ⟨e1,e2,_⟩:=a6f p.rules k i (S:=TD fun k i=>k == 9 || k == 2 && i == 0) (fun k j h=>by subst h;simp) hl
   refine ⟨e1,?_,e2⟩
   have h5:¬ (k=1∧i=0):=by simp at e1;omega
   simp [hk',h5,O9]
   rw [c01 _ _ _ _ fun k j h=>by simp]
 simp [num]
 refine b5n ?_
 simp [T9,a4y,num]
theorem c5a (p:LPipe) (k:Nat) (hx:Z3 1048576 p) (hk:k+a64 p < 8388608):R1 Tryz.prog 19 [.agg (a3z p),.val (num k)] (dyn (Q8 p)) (fun _=>false) (.val (num ((k+a64 p:Nat):Int))) (fun _=>.dead):=by
 refine X2 mixed ok19 (fun i h=>a8f h) (fun i h=>by cases h) ?_
 unfold ir19
 rw [b6]
 obtain ⟨b0,b1,b2,b3⟩:=hx
 have hcp:a64 p=G4 T2 p.channels+p.policy.uris.length+G4 Y7 p.policy.rules+3*p.log.length+G4 a0p p.wires:=rfl
 obtain ⟨m1,hm1⟩:∃ m,k+G4 T2 p.channels=m:=⟨_,rfl⟩
 obtain ⟨m2,hm2⟩:∃ m,m1+p.policy.uris.length+G4 Y7 p.policy.rules=m:=⟨_,rfl⟩
 obtain ⟨m3,hm3⟩:∃ m,m2+3*p.log.length=m:=⟨_,rfl⟩
 obtain ⟨m4,hm4⟩:∃ m,m3+G4 a0p p.wires=m:=⟨_,rfl⟩
 have h1:=b5w p.channels k b0 (by omega)
 have h2:=b9p p.policy m1 b1 (by omega)
 have h3:=b9i p.log m2 (by omega) b2
 have h4:=c2e p.wires m3 b3 (by omega)
 have hm:k+a64 p=m4:=by omega
 rw [hm1] at h1
 rw [hm2] at h2
 rw [hm3] at h3
 rw [hm4] at h4
 rw [hm]
 simp [num,tx,a3z,Q8,O9,U6,a0q,P1,U7,W9,a2o]
 refine c2l (G:=P1 p.channels) (fun k i=>(k == 5 || k == 6 || k == 7 || k == 8) || k == 0 && i == 0) h1 ?_ ?_ ?_
 · intro q hq
   simp only [List.mem_cons,List.not_mem_nil,or_false] at hq
   rcases hq with rfl | rfl
   · exact O6 (by simp)
   · exact S5
 · intro k i hk' hl
   obtain ⟨e1,e2,_⟩:=a1x p.channels k i (S:=TD fun k i=>(k == 5 || k == 6 || k == 7 || k == 8) || k == 0 && i == 0) (fun k j h=>by rcases h with rfl | rfl | rfl | rfl<;>simp) hl
   refine ⟨e1,?_,e2⟩
   have h5:¬ (k=3∧i=0)∧¬ (k=1∧i=0∨k=2∧i=0∨k=9)∧¬ (k=4∧i=0∨k=10):=by simp at e1;omega
   simp [hk',Q8,h5.1,h5.2.1,h5.2.2]
   rw [a28 _ _ _ _ fun k j h=>by simp]
 simp [num,tx,a3z,Q8,O9,U6,a0q,P1,U7,W9,a2o]
 refine c2l (G:=O9 p.policy) (fun k i=>k == 1 && i == 0 || k == 9 || k == 2 && i == 0) h2 ?_ ?_ ?_
 · intro q hq
   simp only [List.mem_cons,List.not_mem_nil,or_false] at hq
   rcases hq with rfl | rfl
   · exact a2c fun q hq=>by
      simp only [a3h,List.mem_cons,List.not_mem_nil,or_false] at hq
      rcases hq with rfl | rfl | rfl
      · exact S5
      · exact O6 (by simp)
      · exact O6 (by simp)
   · exact S5
 · intro k i hk' hl
   obtain ⟨e1,e2,_⟩:=a5j p.policy k i (S:=TD fun k i=>k == 1 && i == 0 || k == 9 || k == 2 && i == 0) (fun k j h=>by subst h;simp) hl
   refine ⟨e1,?_,e2⟩
   have h5:¬ (k=3∧i=0)∧(k=1∧i=0∨k=2∧i=0∨k=9)∧¬ ((((k=5∨k=6)∨k=7)∨k=8)∨k=0∧i=0):=by simp at e1;omega
   simp [hk',Q8,h5.1,h5.2.1,h5.2.2]
   rw [a30 _ _ _ _ fun k j h=>by simp,a30 _ _ _ _ fun k j h=>by subst h;simp]
 simp [num,tx,a3z,Q8,O9,U6,a0q,P1,U7,W9,a2o]
 refine b8f (by simp [PV.plain1]) rfl rfl rfl h3 rfl ?_
 simp [num,tx,a3z,Q8,O9,U6,a0q,P1,U7,W9,a2o]
 refine c2l (G:=W9 p.wires) (fun k i=>(k == 10) || k == 4 && i == 0) h4 ?_ ?_ ?_
 · intro q hq
   simp only [List.mem_cons,List.not_mem_nil,or_false] at hq
   rcases hq with rfl | rfl
   · exact O6 (by simp)
   · exact S5
 · intro k i hk' hl
   obtain ⟨e1,e2,_⟩:=a84 p.wires k i (S:=TD fun k i=>(k == 10) || k == 4 && i == 0) (fun k j h=>by subst h;simp) hl
   refine ⟨e1,?_,e2⟩
   have h5:¬ (k=3∧i=0)∧¬ (k=1∧i=0∨k=2∧i=0∨k=9)∧(k=4∧i=0∨k=10)∧¬ ((((k=5∨k=6)∨k=7)∨k=8)∨k=0∧i=0)∧¬ ((k=1∧i=0∨k=9)∨k=2∧i=0):=by simp at e1;omega
   simp [hk',Q8,h5.1,h5.2.1,h5.2.2.1,h5.2.2.2.1,h5.2.2.2.2]
   rw [a7w _ _ _ _ fun k j h=>by simp,a7w _ _ _ _ fun k j h=>by subst h;simp,a7w _ _ _ _ fun k j h=>by subst h;simp]
 simp [num]
 refine b5n ?_
 simp [T9,a4y,num]
theorem a7x (p:LPipe) (k i:Nat) (h:k=1∧i=0∨k=2∧i=0∨k=9):Q8 p k i=O9 p.policy k i:=by
 unfold Q8;rw [if_neg (by omega),if_pos h]
theorem b7k (p:LPipe) (k i:Nat) (h:k=4∧i=0∨k=10):Q8 p k i=W9 p.wires k i:=by
 unfold Q8;rw [if_neg (by omega),if_neg (by omega),if_pos h]
theorem b04 (p:LPipe) (k i:Nat) (h:k=0∧i=0∨k=5∨k=6∨k=7∨k=8):Q8 p k i=P1 p.channels k i:=by
 unfold Q8;rw [if_neg (by omega),if_neg (by omega),if_neg (by omega)]
theorem b1z (p:LPipe) (k i:Nat) (h:(Q8 p k i).live=true):a0m k i=true:=by
 unfold Q8 at h
 unfold a0m
 split at h
 · rename_i e;simp [e]
 split at h
 · rename_i e;rcases e with e | e | e<;>simp [e]
 split at h
 · rename_i e;rcases e with e | e<;>simp [e]
 · have:=(a1x p.channels k i (S:=fun _=>true) (fun _ _ _=>rfl) h).1
   simp at this
   simp;omega
theorem a6g (p:LPipe) (k i:Nat):(Q8 p k i).onT (TD a0m):=by
 unfold Q8
 split
 · exact U0
 split
 · exact a5i p.policy k i fun k j h=>by subst h;simp [a0m]
 split
 · exact b1y p.wires k i fun k j h=>by subst h;simp [a0m]
 · exact a6w p.channels k i fun k j h=>by rcases h with rfl | rfl | rfl | rfl<;>simp [a0m]
theorem a92 (p:LPipe) (k i:Nat):∀ cs,Q8 p k i≠.box cs:=by
 intro cs h
 have hl:(Q8 p k i).live=true:=by rw [h];rfl
 unfold Q8 at h hl
 split at h
 · cases h
 rename_i h0
 rw [if_neg h0] at hl
 split at h
 · rename_i e;rw [if_pos e] at hl;exact (a5j p.policy k i (S:=fun _=>true) (fun _ _ _=>rfl) hl).2.2 cs h
 rename_i h1
 rw [if_neg h1] at hl
 split at h
 · rename_i e;rw [if_pos e] at hl;exact (a84 p.wires k i (S:=fun _=>true) (fun _ _ _=>rfl) hl).2.2 cs h
 · rename_i e;rw [if_neg e] at hl;exact (a1x p.channels k i (S:=fun _=>true) (fun _ _ _=>rfl) hl).2.2 cs h
theorem c02 (p:LPipe) (k i:Nat) (d:Nat→Bool) (h:∀ x,TD a0m x=true→d x=false):(Q8 p k i).kill d=Q8 p k i:=(a6g p k i).2 d h
theorem b10 (p:LPipe) (k i n:Nat) (hn:n < 1000000):(Q8 p k i).kill (fun x=>x == n)=Q8 p k i:=c02 p k i _ fun x hx=>by
 have:=TD_D hx
 simp [isD] at this
 simp;omega
theorem a9c (p:LPipe):(PV.agg (a3z p)).onT (TD a0m):=a2c fun q hq=>by
 simp only [a3z,List.mem_cons,List.not_mem_nil,or_false] at hq
 rcases hq with rfl | rfl | rfl | rfl | rfl | rfl | rfl | rfl
 · exact O6 (by simp [a0m])
 · exact S5
 · exact O6 (by simp [a0m])
 · exact O6 (by simp [a0m])
 · exact S5
 · exact S5
 · exact O6 (by simp [a0m])
 · exact O6 (by simp [a0m])
theorem b4i (p:LPipe) (M:Nat→MObj) (h:∀ k j,k < 16→a0m k j=true→M (DN k j)=Q8 p k j):Res M (.agg (a3z p)) (G1 p):=by
 have hc:=c0h (M:=M) p.channels (by rw [h 0 0 (by omega) (by simp [a0m]),b04 _ _ _ (by omega)];simp [P1]) fun k j hk hl=>by
  rcases a33 p.channels k j with ⟨h',_,_⟩ | e
  · rw [h k j hk (by rcases h' with rfl | rfl | rfl | rfl<;>simp [a0m]),b04 _ _ _ (by omega)]
    unfold P1;rw [if_neg (by omega)]
  · rw [e] at hl;cases hl
 have hr:=c9s (M:=M) p.policy.rules (by rw [h 2 0 (by omega) (by simp [a0m]),a7x _ _ _ (by omega)];simp [O9,U6]) fun k j hk hl=>by
  rcases a62 p.policy.rules k j with ⟨h',_,_⟩ | e
  · rw [h k j hk (by subst h';simp [a0m]),a7x _ _ _ (by omega)]
    unfold O9 U6;rw [if_neg (by omega),if_neg (by omega)]
  · rw [e] at hl;cases hl
 have hw:=c9r (M:=M) p.wires (by rw [h 4 0 (by omega) (by simp [a0m]),b7k _ _ _ (by omega)];simp [W9]) fun k j hk hl=>by
  rcases a61 p.wires k j with ⟨h',_,_⟩ | e
  · rw [h k j hk (by subst h';simp [a0m]),b7k _ _ _ (by omega)]
    unfold W9;rw [if_neg (by omega)]
  · rw [e] at hl;cases hl
 refine .agg _ _ rfl fun i hi=>?_
 have:i=0∨i=1∨i=2∨i=3∨i=4∨i=5∨i=6∨i=7:=by simp [a3z] at hi;omega
 rcases this with rfl | rfl | rfl | rfl | rfl | rfl | rfl | rfl
 · exact hc
 · exact .val _
 · exact .row _ 9 _ _ (by rw [h 1 0 (by omega) (by simp [a0m]),a7x _ _ _ (by omega)];simp [O9])
 · exact hr
 · exact .val _
 · exact .val _
 · exact .row _ 83 _ _ (by rw [h 3 0 (by omega) (by simp [a0m])];simp [Q8])
 · exact hw
theorem b32 (p:LPipe) (hs:Z3 1048576 p):d8 Tryz.prog 11 [.val (G1 p)] (.ret (.val (G1 p)) []) []:=
 ok_of_mem (c2c p hs) (b4i p _ fun k j hk _=>a4m hk)
end Go.Proofs
end
