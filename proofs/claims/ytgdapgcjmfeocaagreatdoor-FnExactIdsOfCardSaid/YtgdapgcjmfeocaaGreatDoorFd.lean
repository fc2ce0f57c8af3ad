/- Fd: merged out of KXb, KXc, KXd, KXe. -/
import Derived.Test.YtgdapgcjmfeocaaGreatDoorFc
import Derived.Test.YtgdapgcjmfeocaaGreatDoorPWaf
import Derived.Test.YtgdapgcjmfeocaaGreatDoorPWag
set_option linter.unusedSectionVars false
set_option linter.unusedSimpArgs false
set_option linter.unusedVariables false
set_option maxRecDepth 100000
section
namespace Go.Proofs
open Go.PW Go.KP
attribute [local simp] RV.cells RV.one PV.cells PV.solid PV.one G4 i7 L9 L6 RV.ofCells elems PV.killL
variable [GF]
attribute [local simp] a7f b3c c0f c0g c0e b7a a4n b5o a95 b7t b2g b6c b0o
theorem a49 {α:Type} {f:α→RV} (h:∀ x,(f x).flat=true) (l:List α):∀ x∈l.map f,x.flat=true:=fun x hx=>by
 obtain ⟨y,_,rfl⟩:=List.mem_map.1 hx
 exact h y
theorem a8f (l:List Tx) (k j:Nat) (hk:k < 16) (hx:bdS 1048576 (fun t=>t.length≤1048576) l):R3 Tryz.prog 76 [.val (.list 1 (l.map tx))] (fun _=>.dead) (fun _=>false) (.own (DN k j)) (dyn fun k' j'=>if k'=k∧j'=j then .row 9 1 (l.map tx) else .dead):=
 a8z (b18 l hx) (a49 (fun _=>rfl) l) k j hk
theorem d09 (l:List Int) (k j:Nat) (hk:k < 16) (hx:l.length≤1048576):R3 Tryz.prog 120 [.val (.list 1 (l.map num))] (fun _=>.dead) (fun _=>false) (.own (DN k j)) (dyn fun k' j'=>if k'=k∧j'=j then .row 3 1 (l.map num) else .dead):=
 a8z (b6x l hx) (a49 (fun _=>rfl) l) k j hk
theorem c1x (l:List LTarget) (k j:Nat) (hk:k < 16) (hx:bdS 1048576 (U5 1048576) l):R3 Tryz.prog 155 [.val (.list 3 (l.map f9))] (fun _=>.dead) (fun _=>false) (.own (DN k j)) (dyn fun k' j'=>if k'=k∧j'=j then .row 162 3 (l.map f9) else .dead):=
 a8z (b17 l hx) (a49 (fun _=>rfl) l) k j hk
theorem c8c (l:List LPeer) (k j:Nat) (hk:k < 16) (hx:bdS 1048576 (a1c 1048576) l):R3 Tryz.prog 117 [.val (.list 6 (l.map G1))] (fun _=>.dead) (fun _=>false) (.own (DN k j)) (dyn fun k' j'=>if k'=k∧j'=j then .row 164 6 (l.map G1) else .dead):=
 a8z (b5d l hx) (a49 (fun _=>rfl) l) k j hk
theorem c1y (l:List LReport) (k j:Nat) (hk:k < 16) (hx:bdS 1048576 (X4 1048576) l):R3 Tryz.prog 157 [.val (.list 4 (l.map j4))] (fun _=>.dead) (fun _=>false) (.own (DN k j)) (dyn fun k' j'=>if k'=k∧j'=j then .row 146 4 (l.map j4) else .dead):=
 a8z (b19 l hx) (a49 (fun _=>rfl) l) k j hk
theorem c4u (l:List LEntry) (k j:Nat) (hk:k < 16) (hx:l.length≤1048576):R3 Tryz.prog 39 [.val (.list 3 (l.map A2))] (fun _=>.dead) (fun _=>false) (.own (DN k j)) (dyn fun k' j'=>if k'=k∧j'=j then .row 83 3 (l.map A2) else .dead):=
 a8z (b3k l hx) (a49 (fun _=>rfl) l) k j hk
def a38 (x:LGroup) (j:Nat):List PV:=[.val (tx x.name),.val (num x.age),.own (DN 5 j)]
def a2k (x:LGroup) (k:Nat):MObj:=if k=5 then .row 162 3 (x.targets.map f9) else .dead
theorem a7r (x:LGroup) (k:Nat):((k=5)∧∃ E sz xs,a2k x k=.row E sz xs)∨a2k x k=.dead∧¬ (k=5):=by
 by_cases h:k=5
 · refine .inl ⟨h,?_⟩
   unfold a2k
   subst h;simp
 · refine .inr ⟨?_,h⟩
   unfold a2k
   skip
   simp [h]
theorem b53 (x:LGroup) (j:Nat) {S:Nat→Bool} (h:∀ k,(k=5)→S (DN k j)=true):(PV.agg (a38 x j)).onT S:=by
 refine a2d fun p hp=>?_
 simp only [a38,List.mem_cons,List.not_mem_nil,or_false] at hp
 rcases hp with rfl | rfl | rfl
 · exact S4
 · exact S4
 · exact O7 (h _ (by simp))
theorem c8d (x:LGroup) (j:Nat) (hx:a11 1048576 x):R3 Tryz.prog 116 [.val (M0 x)] (fun _=>.dead) (fun _=>false) (.agg (a38 x j)) (dyn fun k i=>if i=j then a2k x k else .dead):=by
 refine X3 mixed ok116 (fun i h=>by cases h) (fun i h=>by cases h) ?_
 unfold ir116
 rw [b6]
 unfold a11 at hx
 obtain ⟨b0,b1⟩:=hx
 simp [M0,tx,num]
 refine a3n (rs:=[.list 3 (x.targets.map f9)]) (fun k' i'=>k' == 5 && i' == j) rfl (c1x x.targets 5 j (by omega) b1) ?_ ?_ ?_
 · intro k i hk hl
   by_cases h:k=5∧i=j
   · rw [if_pos h]
     exact ⟨by simp [h],U1,fun cs h=>by cases h⟩
   · rw [if_neg h] at hl;cases hl
 · exact O7 (by simp)
 simp [M0,tx,num]
 refine b0c _ ?_ ?_ ?_ ?_
 · simp [a38,a2k,M0,tx,num,U0,a4z]
 · intro k i hk hl
   by_cases h:i=j
   · subst h
     rw [if_pos rfl] at hl ⊢
     rcases a7r x k with ⟨h,E,sz,xs,e⟩ | ⟨h,_⟩
     · subst h<;>simp [a38,a2k]
     · rw [h] at hl;cases hl
   · rw [if_neg h] at hl;cases hl
 · exact b53 x j fun k _=>by simp
 · intro k i hk
   by_cases h:i=j
   · rw [if_pos h]
     rcases a7r x k with ⟨h,E,sz,xs,e⟩ | ⟨h,_⟩
     · rw [e];exact U1
     · rw [h];exact Y5
   · rw [if_neg h];exact Y5
def a36 (x:LQueue) (j:Nat):List PV:=[.own (DN 7 j),.own (DN 8 j)]
def a2j (x:LQueue) (k:Nat):MObj:=if k=7 then .row 146 4 (x.items.map j4) else if k=8 then .row 9 1 (x.recent.map tx) else .dead
theorem a7q (x:LQueue) (k:Nat):((k=7∨k=8)∧∃ E sz xs,a2j x k=.row E sz xs)∨a2j x k=.dead∧¬ (k=7∨k=8):=by
 by_cases h:k=7∨k=8
 · refine .inl ⟨h,?_⟩
   unfold a2j
   rcases h with rfl | rfl<;>simp
 · refine .inr ⟨?_,h⟩
   unfold a2j
   simp only [not_or] at h
   simp [h]
theorem b52 (x:LQueue) (j:Nat) {S:Nat→Bool} (h:∀ k,(k=7∨k=8)→S (DN k j)=true):(PV.agg (a36 x j)).onT S:=by
 refine a2d fun p hp=>?_
 simp only [a36,List.mem_cons,List.not_mem_nil,or_false] at hp
 rcases hp with rfl | rfl
 · exact O7 (h _ (by simp))
 · exact O7 (h _ (by simp))
theorem c8b (x:LQueue) (j:Nat) (hx:a2m 1048576 x):R3 Tryz.prog 118 [.val (K9 x)] (fun _=>.dead) (fun _=>false) (.agg (a36 x j)) (dyn fun k i=>if i=j then a2j x k else .dead):=by
 refine X3 mixed ok118 (fun i h=>by cases h) (fun i h=>by cases h) ?_
 unfold ir118
 rw [b6]
 unfold a2m at hx
 obtain ⟨b0,b1⟩:=hx
 simp [K9,tx,num]
 refine a3n (rs:=[.list 4 (x.items.map j4)]) (fun k' i'=>k' == 7 && i' == j) rfl (c1y x.items 7 j (by omega) b0) ?_ ?_ ?_
 · intro k i hk hl
   by_cases h:k=7∧i=j
   · rw [if_pos h]
     exact ⟨by simp [h],U1,fun cs h=>by cases h⟩
   · rw [if_neg h] at hl;cases hl
 · exact O7 (by simp)
 simp [K9,tx,num]
 refine a3n (rs:=[.list 1 (x.recent.map tx)]) (fun k' i'=>k' == 8 && i' == j) rfl (a8f x.recent 8 j (by omega) b1) ?_ ?_ ?_
 · intro k i hk hl
   by_cases h:k=8∧i=j
   · rw [if_pos h]
     exact ⟨by simp [h],U1,fun cs h=>by cases h⟩
   · rw [if_neg h] at hl;cases hl
 · exact O7 (by simp)
 simp [K9,tx,num]
 refine b0c _ ?_ ?_ ?_ ?_
 · simp [a36,a2j,K9,tx,num,U0,a4z]
 · intro k i hk hl
   by_cases h:i=j
   · subst h
     rw [if_pos rfl] at hl ⊢
     rcases a7q x k with ⟨h,E,sz,xs,e⟩ | ⟨h,_⟩
     · rcases h with rfl | rfl<;>simp [a36,a2j]
     · rw [h] at hl;cases hl
   · rw [if_neg h] at hl;cases hl
 · exact b52 x j fun k _=>by simp
 · intro k i hk
   by_cases h:i=j
   · rw [if_pos h]
     rcases a7q x k with ⟨h,E,sz,xs,e⟩ | ⟨h,_⟩
     · rw [e];exact U1
     · rw [h];exact Y5
   · rw [if_neg h];exact Y5
def a1s (x:LRule) (j:Nat):List PV:=[.val (tx x.name),.own (DN 9 j)]
def a2n (x:LRule) (k:Nat):MObj:=if k=9 then .row 9 1 (x.words.map tx) else .dead
theorem a42 (x:LRule) (k:Nat):((k=9)∧∃ E sz xs,a2n x k=.row E sz xs)∨a2n x k=.dead∧¬ (k=9):=by
 by_cases h:k=9
 · refine .inl ⟨h,?_⟩
   unfold a2n
   subst h;simp
 · refine .inr ⟨?_,h⟩
   unfold a2n
   skip
   simp [h]
theorem b7q (x:LRule) (j:Nat) {S:Nat→Bool} (h:∀ k,(k=9)→S (DN k j)=true):(PV.agg (a1s x j)).onT S:=by
 refine a2d fun p hp=>?_
 simp only [a1s,List.mem_cons,List.not_mem_nil,or_false] at hp
 rcases hp with rfl | rfl
 · exact S4
 · exact O7 (h _ (by simp))
theorem d08 (x:LRule) (j:Nat) (hx:X7 1048576 x):R3 Tryz.prog 119 [.val (l5 x)] (fun _=>.dead) (fun _=>false) (.agg (a1s x j)) (dyn fun k i=>if i=j then a2n x k else .dead):=by
 refine X3 mixed ok119 (fun i h=>by cases h) (fun i h=>by cases h) ?_
 unfold ir119
 rw [b6]
 unfold X7 at hx
 obtain ⟨b0,b1⟩:=hx
 simp [l5,tx,num]
 refine a3n (rs:=[.list 1 (x.words.map tx)]) (fun k' i'=>k' == 9 && i' == j) rfl (a8f x.words 9 j (by omega) b1) ?_ ?_ ?_
 · intro k i hk hl
   by_cases h:k=9∧i=j
   · rw [if_pos h]
     exact ⟨by simp [h],U1,fun cs h=>by cases h⟩
   · rw [if_neg h] at hl;cases hl
 · exact O7 (by simp)
 simp [l5,tx,num]
 refine b0c _ ?_ ?_ ?_ ?_
 · simp [a1s,a2n,l5,tx,num,U0,a4z]
 · intro k i hk hl
   by_cases h:i=j
   · subst h
     rw [if_pos rfl] at hl ⊢
     rcases a42 x k with ⟨h,E,sz,xs,e⟩ | ⟨h,_⟩
     · subst h<;>simp [a1s,a2n]
     · rw [h] at hl;cases hl
   · rw [if_neg h] at hl;cases hl
 · exact b7q x j fun k _=>by simp
 · intro k i hk
   by_cases h:i=j
   · rw [if_pos h]
     rcases a42 x k with ⟨h,E,sz,xs,e⟩ | ⟨h,_⟩
     · rw [e];exact U1
     · rw [h];exact Y5
   · rw [if_neg h];exact Y5
def a05 (x:LWire) (j:Nat):List PV:=[.val (num x.at_),.val (num x.status),.val (tx x.group),.val (tx x.url),.own (DN 10 j),.val (tx x.body),.val (.bool x.lost)]
def a1k (x:LWire) (k:Nat):MObj:=if k=10 then .row 3 1 (x.ids.map num) else .dead
theorem a41 (x:LWire) (k:Nat):((k=10)∧∃ E sz xs,a1k x k=.row E sz xs)∨a1k x k=.dead∧¬ (k=10):=by
 by_cases h:k=10
 · refine .inl ⟨h,?_⟩
   unfold a1k
   subst h;simp
 · refine .inr ⟨?_,h⟩
   unfold a1k
   skip
   simp [h]
theorem b7p (x:LWire) (j:Nat) {S:Nat→Bool} (h:∀ k,(k=10)→S (DN k j)=true):(PV.agg (a05 x j)).onT S:=by
 refine a2d fun p hp=>?_
 simp only [a05,List.mem_cons,List.not_mem_nil,or_false] at hp
 rcases hp with rfl | rfl | rfl | rfl | rfl | rfl | rfl
 · exact S4
 · exact S4
 · exact S4
 · exact S4
 · exact O7 (h _ (by simp))
 · exact S4
 · exact S4
theorem d07 (x:LWire) (j:Nat) (hx:Z3 1048576 x):R3 Tryz.prog 79 [.val (H7 x)] (fun _=>.dead) (fun _=>false) (.agg (a05 x j)) (dyn fun k i=>if i=j then a1k x k else .dead):=by
 refine X3 mixed ok79 (fun i h=>by cases h) (fun i h=>by cases h) ?_
 unfold ir79
 rw [b6]
 unfold Z3 at hx
 obtain ⟨b0,b1,b2,b3⟩:=hx
 simp [H7,tx,num]
 refine a3n (rs:=[.list 1 (x.ids.map num)]) (fun k' i'=>k' == 10 && i' == j) rfl (d09 x.ids 10 j (by omega) b2) ?_ ?_ ?_
 · intro k i hk hl
   by_cases h:k=10∧i=j
   · rw [if_pos h]
     exact ⟨by simp [h],U1,fun cs h=>by cases h⟩
   · rw [if_neg h] at hl;cases hl
 · exact O7 (by simp)
 simp [H7,tx,num]
 refine b0c _ ?_ ?_ ?_ ?_
 · simp [a05,a1k,H7,tx,num,U0,a4z]
 · intro k i hk hl
   by_cases h:i=j
   · subst h
     rw [if_pos rfl] at hl ⊢
     rcases a41 x k with ⟨h,E,sz,xs,e⟩ | ⟨h,_⟩
     · subst h<;>simp [a05,a1k]
     · rw [h] at hl;cases hl
   · rw [if_neg h] at hl;cases hl
 · exact b7p x j fun k _=>by simp
 · intro k i hk
   by_cases h:i=j
   · rw [if_pos h]
     rcases a41 x k with ⟨h,E,sz,xs,e⟩ | ⟨h,_⟩
     · rw [e];exact U1
     · rw [h];exact Y5
   · rw [if_neg h];exact Y5
def S6 (x:LChannel) (j:Nat):List PV:=[.val (tx x.group.name),.val (num x.group.age),.own (DN 5 j),.own (DN 6 j),.own (DN 7 j),.own (DN 8 j)]
def T7 (x:LChannel) (k:Nat):MObj:=if k=5 then .row 162 3 (x.group.targets.map f9) else if k=6 then .row 164 6 (x.peers.map G1) else if k=7 then .row 146 4 (x.queue.items.map j4) else if k=8 then .row 9 1 (x.queue.recent.map tx) else .dead
theorem a2c (x:LChannel) (k:Nat):((k=5∨k=6∨k=7∨k=8)∧∃ E sz xs,T7 x k=.row E sz xs)∨T7 x k=.dead∧¬ (k=5∨k=6∨k=7∨k=8):=by
 by_cases h:k=5∨k=6∨k=7∨k=8
 · refine .inl ⟨h,?_⟩
   unfold T7
   rcases h with rfl | rfl | rfl | rfl<;>simp
 · refine .inr ⟨?_,h⟩
   unfold T7
   simp only [not_or] at h
   simp [h]
theorem b1h (x:LChannel) (j:Nat) {S:Nat→Bool} (h:∀ k,(k=5∨k=6∨k=7∨k=8)→S (DN k j)=true):(PV.agg (S6 x j)).onT S:=by
 refine a2d fun p hp=>?_
 simp only [S6,List.mem_cons,List.not_mem_nil,or_false] at hp
 rcases hp with rfl | rfl | rfl | rfl | rfl | rfl
 · exact S4
 · exact S4
 · exact O7 (h _ (by simp))
 · exact O7 (h _ (by simp))
 · exact O7 (h _ (by simp))
 · exact O7 (h _ (by simp))
theorem c10 (x:LChannel) (j:Nat) (hx:R1 1048576 x):R3 Tryz.prog 75 [.val (j7 x)] (fun _=>.dead) (fun _=>false) (.agg (S6 x j)) (dyn fun k i=>if i=j then T7 x k else .dead):=by
 refine X3 mixed ok75 (fun i h=>by cases h) (fun i h=>by cases h) ?_
 unfold ir75
 rw [b6]
 unfold R1 at hx
 obtain ⟨b0,b1,b2⟩:=hx
 simp [M0,K9,j7,tx,num]
 refine a3n (rs:=[M0 x.group]) (fun k' i'=>(k' == 5) && i' == j) rfl (c8d x.group j b0) ?_ ?_ ?_
 · intro k' i' hk hl
   by_cases h:i'=j
   · subst h
     rw [if_pos rfl] at hl ⊢
     rcases a7r x.group k' with ⟨h,E,sz,xs,e⟩ | ⟨h,_⟩
     · rw [e];exact ⟨by subst h;simp,U1,fun cs h=>by cases h⟩
     · rw [h] at hl;cases hl
   · rw [if_neg h] at hl;cases hl
 · refine b53 x.group j fun k hk=>?_
   subst hk;simp
 simp [M0,K9,j7,a38,a2k,a36,a2j,tx,num]
 refine a3n (rs:=[.list 6 (x.peers.map G1)]) (fun k' i'=>k' == 6 && i' == j) rfl (c8c x.peers 6 j (by omega) b1) ?_ ?_ ?_
 · intro k i hk hl
   by_cases h:k=6∧i=j
   · rw [if_pos h]
     exact ⟨by simp [h],U1,fun cs h=>by cases h⟩
   · rw [if_neg h] at hl;cases hl
 · exact O7 (by simp)
 simp [M0,K9,j7,a38,a2k,a36,a2j,tx,num]
 refine a3n (rs:=[K9 x.queue]) (fun k' i'=>(k' == 7 || k' == 8) && i' == j) rfl (c8b x.queue j b2) ?_ ?_ ?_
 · intro k' i' hk hl
   by_cases h:i'=j
   · subst h
     rw [if_pos rfl] at hl ⊢
     rcases a7q x.queue k' with ⟨h,E,sz,xs,e⟩ | ⟨h,_⟩
     · rw [e];exact ⟨by rcases h with rfl | rfl<;>simp,U1,fun cs h=>by cases h⟩
     · rw [h] at hl;cases hl
   · rw [if_neg h] at hl;cases hl
 · refine b52 x.queue j fun k hk=>?_
   rcases hk with rfl | rfl<;>simp
 simp [M0,K9,j7,a38,a2k,a36,a2j,tx,num]
 refine b0c _ ?_ ?_ ?_ ?_
 · simp [a38,a2k,a36,a2j,S6,T7,M0,K9,j7,tx,num,U0,a4z]
 · intro k i hk hl
   by_cases h:i=j
   · subst h
     rw [if_pos rfl] at hl ⊢
     rcases a2c x k with ⟨h,E,sz,xs,e⟩ | ⟨h,_⟩
     · rcases h with rfl | rfl | rfl | rfl<;>simp [a38,a2k,a36,a2j,S6,T7]
     · rw [h] at hl;cases hl
   · rw [if_neg h] at hl;cases hl
 · exact b1h x j fun k _=>by simp
 · intro k i hk
   by_cases h:i=j
   · rw [if_pos h]
     rcases a2c x k with ⟨h,E,sz,xs,e⟩ | ⟨h,_⟩
     · rw [e];exact U1
     · rw [h];exact Y5
   · rw [if_neg h];exact Y5
def S7 (l:List LChannel) (j k:Nat):PV:=match l[j]? with
 | some x=>(S6 x j).getD k .undef
 | none=>.undef
def U8 (l:List LChannel):MObj:=.prow 120 6 l.length (S7 l)
def Q7 (l:List LChannel) (k j:Nat):MObj:=match l[j]? with
 | some x=>T7 x k
 | none=>.dead
theorem b9f (x:LChannel) (j k:Nat):(∃ r,(S6 x j).getD k .undef=.val r)∨(S6 x j).getD k .undef=.undef∨(∃ k',(k'=5∨k'=6∨k'=7∨k'=8)∧(S6 x j).getD k .undef=.own (DN k' j)):=by
 unfold S6
 by_cases h:k < 6
 · have:k=0∨k=1∨k=2∨k=3∨k=4∨k=5:=by omega
   rcases this with rfl | rfl | rfl | rfl | rfl | rfl<;>simp
 · rw [List.getD_eq_getElem?_getD,List.getElem?_eq_none (by simp;omega)]
   exact .inr (.inl rfl)
theorem a9k (l:List LChannel) (j k:Nat):(∃ r,S7 l j k=.val r)∨S7 l j k=.undef∨(∃ k',(k'=5∨k'=6∨k'=7∨k'=8)∧S7 l j k=.own (DN k' j)):=by
 unfold S7
 cases l[j]? with
 | none=>exact .inr (.inl rfl)
 | some x=>exact b9f x j k
theorem b3f (l:List LChannel) (j k:Nat) (d:Nat→Bool) (h:∀ k',(k'=5∨k'=6∨k'=7∨k'=8)→d (DN k' j)=false):(S7 l j k).kill d=S7 l j k:=by
 rcases a9k l j k with ⟨r,e⟩ | e | ⟨k',hk,e⟩<;>rw [e]<;>simp only [PV.kill]
 rw [h k' hk];rfl
theorem a34 (l:List LChannel) (k j:Nat):((k=5∨k=6∨k=7∨k=8)∧j < l.length∧∃ E sz xs,Q7 l k j=.row E sz xs)∨Q7 l k j=.dead:=by
 unfold Q7
 by_cases h:j < l.length
 · rw [List.getElem?_eq_getElem h]
   rcases a2c l[j] k with ⟨h',e⟩ | ⟨h,_⟩
   · exact .inl ⟨h',h,e⟩
   · exact .inr h
 · rw [List.getElem?_eq_none (by omega)];exact .inr rfl
theorem b5l (l:List LChannel) (k j:Nat) (d:Nat→Bool):(Q7 l k j).kill d=Q7 l k j:=by
 rcases a34 l k j with ⟨_,_,E,sz,xs,e⟩ | e<;>rw [e]<;>rfl
theorem b00 (l:List LChannel) {S:Nat→Bool} (h:∀ k j,(k=5∨k=6∨k=7∨k=8)→S (DN k j)=true):(U8 l).onT S:=by
 refine b4k fun j k=>?_
 rcases a9k l j k with ⟨r,e⟩ | e | ⟨k',hk,e⟩
 · exact .inl ⟨r,e⟩
 · exact .inr (.inl e)
 · exact .inr (.inr (.inr ⟨_,e,h k' j hk⟩))
def P2 (l:List LChannel) (k i:Nat):MObj:=if k=0∧i=0 then U8 l else Q7 l k i
theorem a1y (l:List LChannel) (k i:Nat) {S:Nat→Bool} (hS:∀ k j,(k=5∨k=6∨k=7∨k=8)→S (DN k j)=true) (h:(P2 l k i).live=true):((k == 5 || k == 6 || k == 7 || k == 8) || (k == 0 && i == 0))=true∧(P2 l k i).onT S∧∀ cs,P2 l k i≠.box cs:=by
 unfold P2 at h ⊢
 by_cases h0:k=0∧i=0
 · rw [if_pos h0]
   exact ⟨by simp [h0],b00 l hS,fun cs h=>by cases h⟩
 · rw [if_neg h0] at h ⊢
   rcases a34 l k i with ⟨h',_,E,sz,xs,e⟩ | e
   · rw [e]
     refine ⟨?_,U1,fun cs h=>by cases h⟩
     rcases h' with rfl | rfl | rfl | rfl<;>simp
   · rw [e] at h;cases h
theorem a6u (l:List LChannel) (k i:Nat) {S:Nat→Bool} (hS:∀ k j,(k=5∨k=6∨k=7∨k=8)→S (DN k j)=true):(P2 l k i).onT S:=by
 cases hl:(P2 l k i).live with
 | true=>exact (a1y l k i hS hl).2.1
 | false=>cases hm:P2 l k i<;>rw [hm] at hl<;>first | exact Y5 | cases hl
theorem a28 (l:List LChannel) (k i:Nat) (d:Nat→Bool) (h:∀ k j,(k=5∨k=6∨k=7∨k=8)→d (DN k j)=false):(P2 l k i).kill d=P2 l k i:=
 (a6u l k i (S:=fun x=>!d x) fun k j hk=>by simp [h k j hk]).2 d fun x hx=>by simpa using hx
theorem b89 (l:List LChannel) (hx:bdS 1048576 (R1 1048576) l):R3 Tryz.prog 37 [.val (.list 6 (l.map j7))] (fun _=>.dead) (fun _=>false) (.own (DN 0 0)) (dyn (P2 l)):=by
 refine X3 mixed okp37 (fun i h=>by cases h) (fun i h=>by cases h) ?_
 unfold irp37
 rw [b6]
 have hl:l.length≤1048576:=hx.1
 simp [num,G4]
 refine ⟨by omega,by omega,?_⟩
 refine j9 (X:=Nat) (fun i=>⟨t6 [(0,.val (.list 6 (l.map j7))),(3,.own 7),(4,.val (num i))],b02 [(7,.prow 120 6 l.length fun j k=>if j < i then S7 l j k else .undef)] (fun k j=>if j < i then Q7 l k j else .dead)⟩) (fun i=>i≤l.length) (fun i=>l.length - i) 0 (Le.mkDN _ _ _ ?_ ?_ ?_) (Nat.zero_le _) ?_
 · simp [upd,num,PV.kill]
 · intro kp hkp
   rw [List.mem_singleton.1 hkp]
   simp [upd]
   refine .rowp _ _ _ _ _ (by simp) fun j k hj hk=>?_
   exact .undef _
 · intro k j hk
   simp
   exact .dead _
 · intro i hi
   simp [num,t7,A1]
   refine f8 (fun h1=>?_) (fun h1=>?_)
   · obtain ⟨x,hxe⟩:∃ x,l[i]=x:=⟨_,rfl⟩
     have he:l[i]?=some x:=by rw [List.getElem?_eq_getElem h1,hxe]
     have hbx:R1 1048576 x:=by rw [← hxe];exact hx.2 _ (List.getElem_mem h1)
     simp [num,h1,he,hxe,t7,A1,j7]
     refine a3n (rs:=[j7 x]) (fun k' i'=>(k' == 5 || k' == 6 || k' == 7 || k' == 8) && i' == i) rfl (c10 x i hbx) ?_ ?_ ?_
     · intro k' i' hk hl
       by_cases h:i'=i
       · subst h
         rw [if_pos rfl] at hl ⊢
         rcases a2c x k' with ⟨h,E,sz,xs,e⟩ | ⟨h,_⟩
         · rw [e];exact ⟨by rcases h with rfl | rfl | rfl | rfl<;>simp,U1,fun cs h=>by cases h⟩
         · rw [h] at hl;cases hl
       · rw [if_neg h] at hl;cases hl
     · refine b1h x i fun k h=>?_
       rcases h with rfl | rfl | rfl | rfl<;>simp
     simp [num,tx,h1,he,t7,A1,S6,T7]
     refine LoopNext.mk (i+1) h1 (by omega) (Le.mkDN _ _ _ ?_ ?_ ?_)
     · simp [num]
       exact wrap_i64 (by omega) (by omega)
     · intro kp hkp
       rw [List.mem_singleton.1 hkp]
       simp [t7,A1]
       refine .prow _ _ _ _ _ fun j k hj hk=>?_
       by_cases hji:j=i
       · subst hji
         have e:S7 l j k=(S6 x j).getD k .undef:=by unfold S7;rw [he]
         rw [if_pos ⟨rfl,hk⟩,if_pos (by omega),e]
         exact .refl _
       · rw [if_neg (fun h=>hji h.1)]
         by_cases hj2:j < i
         · rw [if_pos hj2,if_pos (by omega),b3f]
           · exact .refl _
           · intro k h
             rcases h with rfl | rfl | rfl | rfl<;>simp [hji]
         · rw [if_neg (by omega),if_neg (by omega)];exact .undef _
     · intro k j hk
       by_cases hji:j=i
       · subst hji
         have e:Q7 l k j=T7 x k:=by unfold Q7;rw [he]
         simp [hk,t7,A1]
         rw [e]
         rcases a2c x k with ⟨h,E,sz,xs,e⟩ | ⟨h,_⟩
         · rcases h with rfl | rfl | rfl | rfl<;>simp [T7]<;>exact .refl _
         · rw [h];exact .dead _
       · simp [hk,t7,A1,hji]
         by_cases hj2:j < i
         · rw [if_pos hj2,if_pos (by omega),b5l];exact .refl _
         · rw [if_neg (by omega),if_neg (by omega)];exact .dead _
   · have e:i=l.length:=by omega
     subst e
     simp [num,t7,A1]
     refine c4p [(DN 0 0,7,U8 l)] (fun k j=>Q7 l k j) ?_ ?_ ?_ ?_ ?_ ?_
     · intro k j hk
       simp [a6s,P2,hk]
     · simp [ioL,PV.ren,U0,a4z]
     · intro e he
       rw [List.mem_singleton.1 he]
       refine ⟨by simp,by simp,?_⟩
       have:(U8 l).ren (ioL [(DN 0 0,7,U8 l)])=U8 l:=(b00 l (S:=TD (fun k i=>(k == 5 || k == 6 || k == 7 || k == 8))) fun k j h=>by rcases h with rfl | rfl | rfl | rfl<;>simp).1 _ fun x hx=>by
        refine b8z fun e he=>?_
        rw [List.mem_singleton.1 he]
        rintro rfl
        simp at hx
       rw [this]
       simp [t7,A1,U8]
       funext j k
       by_cases hj:j < l.length
       · rw [if_pos hj]
       · rw [if_neg hj];unfold S7;rw [List.getElem?_eq_none (by omega)]
     · simp
     · intro e he
       rw [List.mem_singleton.1 he];simp
     · intro k j hk hl _
       rcases a34 l k j with ⟨_,hj,E,sz,xs,e⟩ | e
       · simp [t7,A1,hk,hj]
         rw [e];rfl
       · rw [e] at hl;cases hl
def a0b (l:List LRule) (j k:Nat):PV:=match l[j]? with
 | some x=>(a1s x j).getD k .undef
 | none=>.undef
def a0r (l:List LRule):MObj:=.prow 154 2 l.length (a0b l)
def a1p (l:List LRule) (k j:Nat):MObj:=match l[j]? with
 | some x=>a2n x k
 | none=>.dead
theorem c8q (x:LRule) (j k:Nat):(∃ r,(a1s x j).getD k .undef=.val r)∨(a1s x j).getD k .undef=.undef∨(∃ k',(k'=9)∧(a1s x j).getD k .undef=.own (DN k' j)):=by
 unfold a1s
 by_cases h:k < 2
 · have:k=0∨k=1:=by omega
   rcases this with rfl | rfl<;>simp
 · rw [List.getD_eq_getElem?_getD,List.getElem?_eq_none (by simp;omega)]
   exact .inr (.inl rfl)
theorem b4o (l:List LRule) (j k:Nat):(∃ r,a0b l j k=.val r)∨a0b l j k=.undef∨(∃ k',(k'=9)∧a0b l j k=.own (DN k' j)):=by
 unfold a0b
 cases l[j]? with
 | none=>exact .inr (.inl rfl)
 | some x=>exact c8q x j k
theorem b8e (l:List LRule) (j k:Nat) (d:Nat→Bool) (h:∀ k',(k'=9)→d (DN k' j)=false):(a0b l j k).kill d=a0b l j k:=by
 rcases b4o l j k with ⟨r,e⟩ | e | ⟨k',hk,e⟩<;>rw [e]<;>simp only [PV.kill]
 rw [h k' hk];rfl
theorem a60 (l:List LRule) (k j:Nat):((k=9)∧j < l.length∧∃ E sz xs,a1p l k j=.row E sz xs)∨a1p l k j=.dead:=by
 unfold a1p
 by_cases h:j < l.length
 · rw [List.getElem?_eq_getElem h]
   rcases a42 l[j] k with ⟨h',e⟩ | ⟨h,_⟩
   · exact .inl ⟨h',h,e⟩
   · exact .inr h
 · rw [List.getElem?_eq_none (by omega)];exact .inr rfl
theorem c1s (l:List LRule) (k j:Nat) (d:Nat→Bool):(a1p l k j).kill d=a1p l k j:=by
 rcases a60 l k j with ⟨_,_,E,sz,xs,e⟩ | e<;>rw [e]<;>rfl
theorem b69 (l:List LRule) {S:Nat→Bool} (h:∀ k j,(k=9)→S (DN k j)=true):(a0r l).onT S:=by
 refine b4k fun j k=>?_
 rcases b4o l j k with ⟨r,e⟩ | e | ⟨k',hk,e⟩
 · exact .inl ⟨r,e⟩
 · exact .inr (.inl e)
 · exact .inr (.inr (.inr ⟨_,e,h k' j hk⟩))
def U7 (l:List LRule) (k i:Nat):MObj:=if k=2∧i=0 then a0r l else a1p l k i
theorem a6d (l:List LRule) (k i:Nat) {S:Nat→Bool} (hS:∀ k j,(k=9)→S (DN k j)=true) (h:(U7 l k i).live=true):((k == 9) || (k == 2 && i == 0))=true∧(U7 l k i).onT S∧∀ cs,U7 l k i≠.box cs:=by
 unfold U7 at h ⊢
 by_cases h0:k=2∧i=0
 · rw [if_pos h0]
   exact ⟨by simp [h0],b69 l hS,fun cs h=>by cases h⟩
 · rw [if_neg h0] at h ⊢
   rcases a60 l k i with ⟨h',_,E,sz,xs,e⟩ | e
   · rw [e]
     refine ⟨?_,U1,fun cs h=>by cases h⟩
     subst h';simp
   · rw [e] at h;cases h
theorem c60 (l:List LRule) (k i:Nat) {S:Nat→Bool} (hS:∀ k j,(k=9)→S (DN k j)=true):(U7 l k i).onT S:=by
 cases hl:(U7 l k i).live with
 | true=>exact (a6d l k i hS hl).2.1
 | false=>cases hm:U7 l k i<;>rw [hm] at hl<;>first | exact Y5 | cases hl
theorem c0l (l:List LRule) (k i:Nat) (d:Nat→Bool) (h:∀ k j,(k=9)→d (DN k j)=false):(U7 l k i).kill d=U7 l k i:=
 (c60 l k i (S:=fun x=>!d x) fun k j hk=>by simp [h k j hk]).2 d fun x hx=>by simpa using hx
theorem c8a (l:List LRule) (hx:bdS 1048576 (X7 1048576) l):R3 Tryz.prog 77 [.val (.list 2 (l.map l5))] (fun _=>.dead) (fun _=>false) (.own (DN 2 0)) (dyn (U7 l)):=by
 refine X3 mixed okp77 (fun i h=>by cases h) (fun i h=>by cases h) ?_
 unfold irp77
 rw [b6]
 have hl:l.length≤1048576:=hx.1
 simp [num,G4]
 refine ⟨by omega,by omega,?_⟩
 refine j9 (X:=Nat) (fun i=>⟨t6 [(0,.val (.list 2 (l.map l5))),(3,.own 7),(4,.val (num i))],b02 [(7,.prow 154 2 l.length fun j k=>if j < i then a0b l j k else .undef)] (fun k j=>if j < i then a1p l k j else .dead)⟩) (fun i=>i≤l.length) (fun i=>l.length - i) 0 (Le.mkDN _ _ _ ?_ ?_ ?_) (Nat.zero_le _) ?_
 · simp [upd,num,PV.kill]
 · intro kp hkp
   rw [List.mem_singleton.1 hkp]
   simp [upd]
   refine .rowp _ _ _ _ _ (by simp) fun j k hj hk=>?_
   exact .undef _
 · intro k j hk
   simp
   exact .dead _
 · intro i hi
   simp [num,t7,A1]
   refine f8 (fun h1=>?_) (fun h1=>?_)
   · obtain ⟨x,hxe⟩:∃ x,l[i]=x:=⟨_,rfl⟩
     have he:l[i]?=some x:=by rw [List.getElem?_eq_getElem h1,hxe]
     have hbx:X7 1048576 x:=by rw [← hxe];exact hx.2 _ (List.getElem_mem h1)
     simp [num,h1,he,hxe,t7,A1,l5]
     refine a3n (rs:=[l5 x]) (fun k' i'=>(k' == 9) && i' == i) rfl (d08 x i hbx) ?_ ?_ ?_
     · intro k' i' hk hl
       by_cases h:i'=i
       · subst h
         rw [if_pos rfl] at hl ⊢
         rcases a42 x k' with ⟨h,E,sz,xs,e⟩ | ⟨h,_⟩
         · rw [e];exact ⟨by subst h;simp,U1,fun cs h=>by cases h⟩
         · rw [h] at hl;cases hl
       · rw [if_neg h] at hl;cases hl
     · refine b7q x i fun k h=>?_
       subst h;simp
     simp [num,tx,h1,he,t7,A1,a1s,a2n]
     refine LoopNext.mk (i+1) h1 (by omega) (Le.mkDN _ _ _ ?_ ?_ ?_)
     · simp [num]
       exact wrap_i64 (by omega) (by omega)
     · intro kp hkp
       rw [List.mem_singleton.1 hkp]
       simp [t7,A1]
       refine .prow _ _ _ _ _ fun j k hj hk=>?_
       by_cases hji:j=i
       · subst hji
         have e:a0b l j k=(a1s x j).getD k .undef:=by unfold a0b;rw [he]
         rw [if_pos ⟨rfl,hk⟩,if_pos (by omega),e]
         exact .refl _
       · rw [if_neg (fun h=>hji h.1)]
         by_cases hj2:j < i
         · rw [if_pos hj2,if_pos (by omega),b8e]
           · exact .refl _
           · intro k h
             subst h;simp [hji]
         · rw [if_neg (by omega),if_neg (by omega)];exact .undef _
     · intro k j hk
       by_cases hji:j=i
       · subst hji
         have e:a1p l k j=a2n x k:=by unfold a1p;rw [he]
         simp [hk,t7,A1]
         rw [e]
         rcases a42 x k with ⟨h,E,sz,xs,e⟩ | ⟨h,_⟩
         · subst h;simp [a2n]<;>exact .refl _
         · rw [h];exact .dead _
       · simp [hk,t7,A1,hji]
         by_cases hj2:j < i
         · rw [if_pos hj2,if_pos (by omega),c1s];exact .refl _
         · rw [if_neg (by omega),if_neg (by omega)];exact .dead _
   · have e:i=l.length:=by omega
     subst e
     simp [num,t7,A1]
     refine c4p [(DN 2 0,7,a0r l)] (fun k j=>a1p l k j) ?_ ?_ ?_ ?_ ?_ ?_
     · intro k j hk
       simp [a6s,U7,hk]
     · simp [ioL,PV.ren,U0,a4z]
     · intro e he
       rw [List.mem_singleton.1 he]
       refine ⟨by simp,by simp,?_⟩
       have:(a0r l).ren (ioL [(DN 2 0,7,a0r l)])=a0r l:=(b69 l (S:=TD (fun k i=>(k == 9))) fun k j h=>by subst h;simp).1 _ fun x hx=>by
        refine b8z fun e he=>?_
        rw [List.mem_singleton.1 he]
        rintro rfl
        simp at hx
       rw [this]
       simp [t7,A1,a0r]
       funext j k
       by_cases hj:j < l.length
       · rw [if_pos hj]
       · rw [if_neg hj];unfold a0b;rw [List.getElem?_eq_none (by omega)]
     · simp
     · intro e he
       rw [List.mem_singleton.1 he];simp
     · intro k j hk hl _
       rcases a60 l k j with ⟨_,hj,E,sz,xs,e⟩ | e
       · simp [t7,A1,hk,hj]
         rw [e];rfl
       · rw [e] at hl;cases hl
def a0a (l:List LWire) (j k:Nat):PV:=match l[j]? with
 | some x=>(a05 x j).getD k .undef
 | none=>.undef
def a2o (l:List LWire):MObj:=.prow 77 7 l.length (a0a l)
def a1o (l:List LWire) (k j:Nat):MObj:=match l[j]? with
 | some x=>a1k x k
 | none=>.dead
theorem c8p (x:LWire) (j k:Nat):(∃ r,(a05 x j).getD k .undef=.val r)∨(a05 x j).getD k .undef=.undef∨(∃ k',(k'=10)∧(a05 x j).getD k .undef=.own (DN k' j)):=by
 unfold a05
 by_cases h:k < 7
 · have:k=0∨k=1∨k=2∨k=3∨k=4∨k=5∨k=6:=by omega
   rcases this with rfl | rfl | rfl | rfl | rfl | rfl | rfl<;>simp
 · rw [List.getD_eq_getElem?_getD,List.getElem?_eq_none (by simp;omega)]
   exact .inr (.inl rfl)
theorem b4n (l:List LWire) (j k:Nat):(∃ r,a0a l j k=.val r)∨a0a l j k=.undef∨(∃ k',(k'=10)∧a0a l j k=.own (DN k' j)):=by
 unfold a0a
 cases l[j]? with
 | none=>exact .inr (.inl rfl)
 | some x=>exact c8p x j k
theorem b8d (l:List LWire) (j k:Nat) (d:Nat→Bool) (h:∀ k',(k'=10)→d (DN k' j)=false):(a0a l j k).kill d=a0a l j k:=by
 rcases b4n l j k with ⟨r,e⟩ | e | ⟨k',hk,e⟩<;>rw [e]<;>simp only [PV.kill]
 rw [h k' hk];rfl
theorem a6z (l:List LWire) (k j:Nat):((k=10)∧j < l.length∧∃ E sz xs,a1o l k j=.row E sz xs)∨a1o l k j=.dead:=by
 unfold a1o
 by_cases h:j < l.length
 · rw [List.getElem?_eq_getElem h]
   rcases a41 l[j] k with ⟨h',e⟩ | ⟨h,_⟩
   · exact .inl ⟨h',h,e⟩
   · exact .inr h
 · rw [List.getElem?_eq_none (by omega)];exact .inr rfl
theorem c1r (l:List LWire) (k j:Nat) (d:Nat→Bool):(a1o l k j).kill d=a1o l k j:=by
 rcases a6z l k j with ⟨_,_,E,sz,xs,e⟩ | e<;>rw [e]<;>rfl
theorem b68 (l:List LWire) {S:Nat→Bool} (h:∀ k j,(k=10)→S (DN k j)=true):(a2o l).onT S:=by
 refine b4k fun j k=>?_
 rcases b4n l j k with ⟨r,e⟩ | e | ⟨k',hk,e⟩
 · exact .inl ⟨r,e⟩
 · exact .inr (.inl e)
 · exact .inr (.inr (.inr ⟨_,e,h k' j hk⟩))
def X0 (l:List LWire) (k i:Nat):MObj:=if k=4∧i=0 then a2o l else a1o l k i
theorem a82 (l:List LWire) (k i:Nat) {S:Nat→Bool} (hS:∀ k j,(k=10)→S (DN k j)=true) (h:(X0 l k i).live=true):((k == 10) || (k == 4 && i == 0))=true∧(X0 l k i).onT S∧∀ cs,X0 l k i≠.box cs:=by
 unfold X0 at h ⊢
 by_cases h0:k=4∧i=0
 · rw [if_pos h0]
   exact ⟨by simp [h0],b68 l hS,fun cs h=>by cases h⟩
 · rw [if_neg h0] at h ⊢
   rcases a6z l k i with ⟨h',_,E,sz,xs,e⟩ | e
   · rw [e]
     refine ⟨?_,U1,fun cs h=>by cases h⟩
     subst h';simp
   · rw [e] at h;cases h
theorem b1y (l:List LWire) (k i:Nat) {S:Nat→Bool} (hS:∀ k j,(k=10)→S (DN k j)=true):(X0 l k i).onT S:=by
 cases hl:(X0 l k i).live with
 | true=>exact (a82 l k i hS hl).2.1
 | false=>cases hm:X0 l k i<;>rw [hm] at hl<;>first | exact Y5 | cases hl
theorem a7u (l:List LWire) (k i:Nat) (d:Nat→Bool) (h:∀ k j,(k=10)→d (DN k j)=false):(X0 l k i).kill d=X0 l k i:=
 (b1y l k i (S:=fun x=>!d x) fun k j hk=>by simp [h k j hk]).2 d fun x hx=>by simpa using hx
theorem c79 (l:List LWire) (hx:bdS 1048576 (Z3 1048576) l):R3 Tryz.prog 40 [.val (.list 7 (l.map H7))] (fun _=>.dead) (fun _=>false) (.own (DN 4 0)) (dyn (X0 l)):=by
 refine X3 mixed okp40 (fun i h=>by cases h) (fun i h=>by cases h) ?_
 unfold irp40
 rw [b6]
 have hl:l.length≤1048576:=hx.1
 simp [num,G4]
 refine ⟨by omega,by omega,?_⟩
 refine j9 (X:=Nat) (fun i=>⟨t6 [(0,.val (.list 7 (l.map H7))),(3,.own 7),(4,.val (num i))],b02 [(7,.prow 77 7 l.length fun j k=>if j < i then a0a l j k else .undef)] (fun k j=>if j < i then a1o l k j else .dead)⟩) (fun i=>i≤l.length) (fun i=>l.length - i) 0 (Le.mkDN _ _ _ ?_ ?_ ?_) (Nat.zero_le _) ?_
 · simp [upd,num,PV.kill]
 · intro kp hkp
   rw [List.mem_singleton.1 hkp]
   simp [upd]
   refine .rowp _ _ _ _ _ (by simp) fun j k hj hk=>?_
   exact .undef _
 · intro k j hk
   simp
   exact .dead _
 · intro i hi
   simp [num,t7,A1]
   refine f8 (fun h1=>?_) (fun h1=>?_)
   · obtain ⟨x,hxe⟩:∃ x,l[i]=x:=⟨_,rfl⟩
     have he:l[i]?=some x:=by rw [List.getElem?_eq_getElem h1,hxe]
     have hbx:Z3 1048576 x:=by rw [← hxe];exact hx.2 _ (List.getElem_mem h1)
     simp [num,h1,he,hxe,t7,A1,H7]
     refine a3n (rs:=[H7 x]) (fun k' i'=>(k' == 10) && i' == i) rfl (d07 x i hbx) ?_ ?_ ?_
     · intro k' i' hk hl
       by_cases h:i'=i
       · subst h
         rw [if_pos rfl] at hl ⊢
         rcases a41 x k' with ⟨h,E,sz,xs,e⟩ | ⟨h,_⟩
         · rw [e];exact ⟨by subst h;simp,U1,fun cs h=>by cases h⟩
         · rw [h] at hl;cases hl
       · rw [if_neg h] at hl;cases hl
     · refine b7p x i fun k h=>?_
       subst h;simp
     simp [num,tx,h1,he,t7,A1,a05,a1k]
     refine LoopNext.mk (i+1) h1 (by omega) (Le.mkDN _ _ _ ?_ ?_ ?_)
     · simp [num]
       exact wrap_i64 (by omega) (by omega)
     · intro kp hkp
       rw [List.mem_singleton.1 hkp]
       simp [t7,A1]
       refine .prow _ _ _ _ _ fun j k hj hk=>?_
       by_cases hji:j=i
       · subst hji
         have e:a0a l j k=(a05 x j).getD k .undef:=by unfold a0a;rw [he]
         rw [if_pos ⟨rfl,hk⟩,if_pos (by omega),e]
         exact .refl _
       · rw [if_neg (fun h=>hji h.1)]
         by_cases hj2:j < i
         · rw [if_pos hj2,if_pos (by omega),b8d]
           · exact .refl _
           · intro k h
             subst h;simp [hji]
         · rw [if_neg (by omega),if_neg (by omega)];exact .undef _
     · intro k j hk
       by_cases hji:j=i
       · subst hji
         have e:a1o l k j=a1k x k:=by unfold a1o;rw [he]
         simp [hk,t7,A1]
         rw [e]
         rcases a41 x k with ⟨h,E,sz,xs,e⟩ | ⟨h,_⟩
         · subst h;simp [a1k]<;>exact .refl _
         · rw [h];exact .dead _
       · simp [hk,t7,A1,hji]
         by_cases hj2:j < i
         · rw [if_pos hj2,if_pos (by omega),c1r];exact .refl _
         · rw [if_neg (by omega),if_neg (by omega)];exact .dead _
   · have e:i=l.length:=by omega
     subst e
     simp [num,t7,A1]
     refine c4p [(DN 4 0,7,a2o l)] (fun k j=>a1o l k j) ?_ ?_ ?_ ?_ ?_ ?_
     · intro k j hk
       simp [a6s,X0,hk]
     · simp [ioL,PV.ren,U0,a4z]
     · intro e he
       rw [List.mem_singleton.1 he]
       refine ⟨by simp,by simp,?_⟩
       have:(a2o l).ren (ioL [(DN 4 0,7,a2o l)])=a2o l:=(b68 l (S:=TD (fun k i=>(k == 10))) fun k j h=>by subst h;simp).1 _ fun x hx=>by
        refine b8z fun e he=>?_
        rw [List.mem_singleton.1 he]
        rintro rfl
        simp at hx
       rw [this]
       simp [t7,A1,a2o]
       funext j k
       by_cases hj:j < l.length
       · rw [if_pos hj]
       · rw [if_neg hj];unfold a0a;rw [List.getElem?_eq_none (by omega)]
     · simp
     · intro e he
       rw [List.mem_singleton.1 he];simp
     · intro k j hk hl _
       rcases a6z l k j with ⟨_,hj,E,sz,xs,e⟩ | e
       · simp [t7,A1,hk,hj]
         rw [e];rfl
       · rw [e] at hl;cases hl
end Go.Proofs
end
section
namespace Go.Proofs
open Go.PW Go.KP
attribute [local simp] RV.cells RV.one PV.cells PV.solid PV.one G4 i7 L9 L6 RV.ofCells elems PV.killL
variable [GF]
attribute [local simp] a7f b3c c0f c0g c0e b7a a4n b5o a95 b7t b2g b6c b0o
def a3i (p:LPolicy):List PV:=[.val (tx p.reportTo),.own (DN 1 0),.own (DN 2 0)]
def P0 (p:LPolicy) (k i:Nat):MObj:=if k=1∧i=0 then .row 9 1 (p.uris.map tx) else U7 p.rules k i
theorem a5j (p:LPolicy) (k i:Nat) {S:Nat→Bool} (hS:∀ k j,(k=9)→S (DN k j)=true) (h:(P0 p k i).live=true):(k == 1 && i == 0 || k == 9 || k == 2 && i == 0)=true∧(P0 p k i).onT S∧∀ cs,P0 p k i≠.box cs:=by
 unfold P0 at h ⊢
 by_cases h0:k=1∧i=0
 · rw [if_pos h0]
   exact ⟨by simp [h0],U1,fun cs h=>by cases h⟩
 · rw [if_neg h0] at h ⊢
   obtain ⟨h1,h2,h3⟩:=a6d p.rules k i hS h
   refine ⟨?_,h2,h3⟩
   simp only [Bool.or_eq_true] at h1 ⊢
   rcases h1 with h1 | h1
   · exact .inl (.inr h1)
   · exact .inr h1
theorem a5i (p:LPolicy) (k i:Nat) {S:Nat→Bool} (hS:∀ k j,(k=9)→S (DN k j)=true):(P0 p k i).onT S:=by
 cases hl:(P0 p k i).live with
 | true=>exact (a5j p k i hS hl).2.1
 | false=>cases hm:P0 p k i<;>rw [hm] at hl<;>first | exact Y5 | cases hl
theorem a31 (p:LPolicy) (k i:Nat) (d:Nat→Bool) (h:∀ k j,(k=9)→d (DN k j)=false):(P0 p k i).kill d=P0 p k i:=
 (a5i p k i (S:=fun x=>!d x) fun k j hk=>by simp [h k j hk]).2 d fun x hx=>by simpa using hx
theorem c4t (p:LPolicy) (hx:a0h 1048576 p):R3 Tryz.prog 38 [.val (w8 p)] (fun _=>.dead) (fun _=>false) (.agg (a3i p)) (dyn (P0 p)):=by
 refine X3 mixed ok38 (fun i h=>by cases h) (fun i h=>by cases h) ?_
 unfold ir38
 rw [b6]
 obtain ⟨b0,b1,b2⟩:=hx
 simp [w8,tx,num]
 refine a3n (rs:=[.list 1 (p.uris.map tx)]) (fun k i=>k == 1 && i == 0) rfl (a8f p.uris 1 0 (by omega) b1) ?_ ?_ ?_
 · intro k i hk hl
   by_cases h:k=1∧i=0
   · rw [if_pos h]
     exact ⟨by simp [h],U1,fun cs h=>by cases h⟩
   · rw [if_neg h] at hl;cases hl
 · exact O7 (by simp)
 simp [w8,tx,num]
 refine a3n (rs:=[.list 2 (p.rules.map l5)]) (fun k i=>k == 9 || k == 2 && i == 0) rfl (c8a p.rules b2) (fun k i hk hl=>a6d p.rules k i (fun k j h=>by subst h;simp) hl) (O7 (by simp)) ?_
 simp [w8,tx,num,U7,a0r]
 refine b0c _ ?_ ?_ ?_ ?_
 · simp [a3i,tx,num,U0,a4z]
 · intro k i hk hl
   by_cases h1:k=1∧i=0
   · obtain ⟨rfl,rfl⟩:=h1;simp [P0]
   · have e:P0 p k i=U7 p.rules k i:=by unfold P0;rw [if_neg h1]
     rw [e] at hl ⊢
     have h2:=(a6d p.rules k i (S:=fun _=>true) (fun _ _ _=>rfl) hl).1
     simp at h2
     simp [hk,h2]
     try simp [U7,a0r]
 · exact a2d fun q hq=>by
    simp only [a3i,List.mem_cons,List.not_mem_nil,or_false] at hq
    rcases hq with rfl | rfl | rfl
    · exact S4
    · exact O7 (by simp)
    · exact O7 (by simp)
 · intro k i hk
   exact a5i p k i fun k j h=>by simp
def a30 (p:LPipe):List PV:=[.own (DN 0 0),.val (tx p.policy.reportTo),.own (DN 1 0),.own (DN 2 0),.val (num p.now),.val (num p.next),.own (DN 3 0),.own (DN 4 0)]
def Q9 (p:LPipe) (k i:Nat):MObj:=
 if k=3∧i=0 then .row 83 3 (p.log.map A2) else if k=1∧i=0∨k=2∧i=0∨k=9 then P0 p.policy k i else if k=4∧i=0∨k=10 then X0 p.wires k i else P2 p.channels k i
def a0n (k i:Nat):Bool:=decide (k < 5) && i == 0 || decide (5≤k) && decide (k < 11)
theorem c1z (p:LPipe) (hx:Z4 1048576 p):R3 Tryz.prog 11 [.val (G2 p)] (fun _=>.dead) (fun _=>false) (.agg (a30 p)) (dyn (Q9 p)):=by
 refine X3 mixed ok11 (fun i h=>by cases h) (fun i h=>by cases h) ?_
 unfold ir11
 rw [b6]
 obtain ⟨b0,b1,b2,b3⟩:=hx
 simp [G2,tx,num]
 refine a3n (rs:=[.list 6 (p.channels.map j7)]) (fun k i=>(k == 5 || k == 6 || k == 7 || k == 8) || k == 0 && i == 0) rfl (b89 p.channels b0) (fun k i hk hl=>a1y p.channels k i (fun k j h=>by rcases h with rfl | rfl | rfl | rfl<;>simp) hl) (O7 (by simp)) ?_
 simp [tx,num,P2,U8]
 refine a3n (rs:=[w8 p.policy]) (fun k i=>k == 1 && i == 0 || k == 9 || k == 2 && i == 0) rfl (c4t p.policy b1) (fun k i hk hl=>a5j p.policy k i (fun k j h=>by subst h;simp) hl) ?_ ?_
 · exact a2d fun q hq=>by
    simp only [a3i,List.mem_cons,List.not_mem_nil,or_false] at hq
    rcases hq with rfl | rfl | rfl
    · exact S4
    · exact O7 (by simp)
    · exact O7 (by simp)
 simp [tx,num,P0,U7,a0r,a3i]
 refine a3n (rs:=[.list 3 (p.log.map A2)]) (fun k i=>k == 3 && i == 0) rfl (c4u p.log 3 0 (by omega) b2) ?_ ?_ ?_
 · intro k i hk hl
   by_cases h:k=3∧i=0
   · rw [if_pos h]
     exact ⟨by simp [h],U1,fun cs h=>by cases h⟩
   · rw [if_neg h] at hl;cases hl
 · exact O7 (by simp)
 simp [tx,num]
 refine a3n (rs:=[.list 7 (p.wires.map H7)]) (fun k i=>(k == 10) || k == 4 && i == 0) rfl (c79 p.wires b3) (fun k i hk hl=>a82 p.wires k i (fun k j h=>by subst h;simp) hl) (O7 (by simp)) ?_
 simp [tx,num,X0,a2o,P0,U7,a0r,P2,U8]
 refine b0c _ ?_ ?_ ?_ ?_
 · simp [a30,tx,num,U0,a4z]
 · intro k i hk hl
   have c1:∀ (k j:Nat),(k=5∨k=6∨k=7∨k=8)→nK (fun k i=>(k == 10) || k == 4 && i == 0) (DN k j)=false:=fun k j h=>by rcases h with rfl | rfl | rfl | rfl<;>simp
   have c2:∀ (k j:Nat),(k=5∨k=6∨k=7∨k=8)→nK (fun k i=>k == 3 && i == 0) (DN k j)=false:=fun k j h=>by rcases h with rfl | rfl | rfl | rfl<;>simp
   have c3:∀ (k j:Nat),(k=5∨k=6∨k=7∨k=8)→nK (fun k i=>k == 1 && i == 0 || k == 9 || k == 2 && i == 0) (DN k j)=false:=fun k j h=>by rcases h with rfl | rfl | rfl | rfl<;>simp
   have r1:∀ (k j:Nat),k=9→nK (fun k i=>(k == 10) || k == 4 && i == 0) (DN k j)=false:=fun k j h=>by subst h;simp
   have r2:∀ (k j:Nat),k=9→nK (fun k i=>k == 3 && i == 0) (DN k j)=false:=fun k j h=>by subst h;simp
   by_cases h1:k=3∧i=0
   · obtain ⟨rfl,rfl⟩:=h1;simp [Q9]
   by_cases h2:k=1∧i=0∨k=2∧i=0∨k=9
   · have e:Q9 p k i=P0 p.policy k i:=by unfold Q9;rw [if_neg h1,if_pos h2]
     rw [e] at hl ⊢
     have h3:¬ (k=4∧i=0)∧¬ k=10∧¬ (k=3∧i=0):=by omega
     have h4:(k=1∧i=0∨k=9)∨k=2∧i=0:=by omega
     simp [hk,h3,h4]
     rw [a31 _ _ _ _ r2,a31 _ _ _ _ r1]
   by_cases h3:k=4∧i=0∨k=10
   · have e:Q9 p k i=X0 p.wires k i:=by unfold Q9;rw [if_neg h1,if_neg h2,if_pos h3]
     rw [e] at hl ⊢
     have h4:k=10∨k=4∧i=0:=by omega
     simp [hk,h4]
   · have e:Q9 p k i=P2 p.channels k i:=by unfold Q9;rw [if_neg h1,if_neg h2,if_neg h3]
     rw [e] at hl ⊢
     have h5:=(a1y p.channels k i (S:=fun _=>true) (fun _ _ _=>rfl) hl).1
     simp at h5
     have h4:¬ (k=10∨k=4∧i=0):=by omega
     have h6:¬ ((k=1∧i=0∨k=9)∨k=2∧i=0):=by omega
     simp only [y0,F7,y5,F5,y6,q7,y4,F6,l7,A7,G8,G9,j6,p5,p6,l1,y7,p9,l3,F4,x9,p8,p7,D5,D6,a0v,a0w,Option.getD_some,Option.getD_none,C2,t8,o5,D2,o4,n8,D4,n9,D3,D1,D0,H3,w6,o2,C8,v8,o1,C7,C0,C9,w5,C5,n7,v7,C6,H5,H4,C1,C3,o0,C4,w7,o3,B0,l9,B9,B8,B7,H0,u9,n0,B5,u6,m8,B4,A8,B6,u7,B2,l8,u5,B3,H2,H1,A9,u4,n6,B1,v6,n5,J3,J2,K6,J4,J8,J6,J5,K5,J7,J9,K2,K3,K4,z1,y9,y8,M1,M2,z8,F8,u0,E1,x2,K8,q8,Q2,M5,L7,N7,N9,N8,Q3,Q4,I5,I7,I6,I8,I9,N4,x4,N3,E2,E3,E4,x5,a0y,F1,x8,Q0,Q1,H6,M3,M4,Option.map_some,Option.map_none,E5,x6,w9,o6,D8,D9,H9,H8,O4,O3,J1,F2,F3,J0,O0,O1,I1,o8,I2,o7,M8,F0,E9,l2,N6,O2,I4,N0,N2,N1,x3,A4,A6,A5,k7,N5,Q6,Q5,M6,I3,U4,M7,o9,E7,E8,x7,E6,l0,u2,k9,u3,k8,K7,O5,O6,z6,z7,G0,F9,D7,z8,b7t,b2g,b7a hk]
     simp [hk,h1,h4,h6,h5]
     rw [a28 _ _ _ _ c3,a28 _ _ _ _ c2,a28 _ _ _ _ c1]
 · exact a2d fun q hq=>by
    simp only [a30,List.mem_cons,List.not_mem_nil,or_false] at hq
    rcases hq with rfl | rfl | rfl | rfl | rfl | rfl | rfl | rfl
    · exact O7 (by simp)
    · exact S4
    · exact O7 (by simp)
    · exact O7 (by simp)
    · exact S4
    · exact S4
    · exact O7 (by simp)
    · exact O7 (by simp)
 · intro k i hk
   unfold Q9
   split
   · exact U1
   split
   · exact a5i p.policy k i fun k j h=>by simp
   split
   · exact b1y p.wires k i fun k j h=>by simp
   · exact a6u p.channels k i fun k j h=>by simp
end Go.Proofs
end
section
namespace Go.Proofs
open Go.PW Go.KP
attribute [local simp] RV.cells RV.one PV.cells PV.solid PV.one G4 i7 L9 L6 RV.ofCells elems PV.killL
variable [GF]
attribute [local simp] a7f b3c c0f c0g c0e b7a a4n b5o a95 b7t b2g b6c b0o
theorem c12 (l:List LRule) (k:Nat) (hx:bdS 1048576 (X7 1048576) l) (hk:k+G5 Y8 l < 8388608):R3 Tryz.prog 99 [.own (DN 2 0),.val (num k)] (dyn (U7 l)) (fun _=>false) (.val (num ((k+G5 Y8 l:Nat):Int))) (fun _=>.dead):=by
 refine X3 mixed okp99 (fun i h=>a8d h) (fun i h=>by cases h) ?_
 unfold irp99
 rw [b6]
 have hl:l.length≤1048576:=hx.1
 simp [num]
 refine j9 (X:=Nat) (fun i=>⟨t6 [(0,.own (DN 2 0)),(1,.val (num ((k+G5 Y8 (l.take i):Nat):Int))),(5,.val (num i))],b02 [] (fun k' j=>if k'=2∧j=0 then .prow 154 2 l.length (fun j k=>if i≤j then a0b l j k else .undef) else if i≤j then a1p l k' j else .dead)⟩) (fun i=>i≤l.length) (fun i=>l.length - i) 0 (Le.mkDN _ _ _ ?_ ?_ ?_) (Nat.zero_le _) ?_
 · simp [upd,num,PV.kill,G5]
 · intro kp hkp;cases hkp
 · intro k' j hk'
   simp [hk',U7,a0r]
   exact .refl _
 · intro i hi
   unfold irp99_l6
   by_cases h1:i < l.length
   · obtain ⟨x,hxe⟩:∃ x,l[i]=x:=⟨_,rfl⟩
     have he:l[i]?=some x:=by rw [List.getElem?_eq_getElem h1,hxe]
     have hbx:X7 1048576 x:=by rw [← hxe];exact hx.2 _ (List.getElem_mem h1)
     have ho:∀ k,a0b l i k=(a1s x i).getD k .undef:=fun k=>by unfold a0b;rw [he]
     have hf:∀ k,a1p l k i=a2n x k:=fun k=>by unfold a1p;rw [he]
     have hst:G5 Y8 (l.take (i+1))=G5 Y8 (l.take i)+Y8 x:=by rw [a09 _ h1,hxe]
     have hle:=a32 (f:=Y8) l (i+1)
     obtain ⟨m0,hm0⟩:∃ m,k+G5 Y8 (l.take i)=m:=⟨_,rfl⟩
     have q1:x.words.length≤1048576:=hbx.2.1
     obtain ⟨m1,hm1⟩:∃ m,m0+1=m:=⟨_,rfl⟩
     obtain ⟨m2,hm2⟩:∃ m,m1+1*x.words.length=m:=⟨_,rfl⟩
     have hcx:Y8 x=1+x.words.length:=rfl
     have hlast:k+G5 Y8 (l.take (i+1))=m2:=by omega
     have s0:IntKind.i64.wrap ((m0:Int)+1)=(m1:Int):=by rw [wrap_i64 (by omega) (by omega)];omega
     have hk0:=a04 m0 (by omega)
     have hk1:=a5y x.words m1 (by omega) q1
     rw [hm2] at hk1
     rw [hm0]
     simp [num,tx,h1,ho,hf,t7,A1,a1s,a2n,s0]
     refine b7 rfl rfl (.inl rfl) hk0 ?_
     simp [num,tx,h1,ho,hf,t7,A1,a1s,a2n,s0]
     refine b71 (by simp [PV.plain1]) rfl rfl rfl hk1 rfl ?_
     simp [num,tx,h1,ho,hf,t7,A1,a1s,a2n,s0]
     refine LoopNext.mk (i+1) h1 (by omega) (Le.mkDN _ _ _ ?_ ?_ ?_)
     · simp only [hlast]
       simp [num,s0]
       exact wrap_i64 (by omega) (by omega)
     · intro kp hkp;cases hkp
     · intro k' j hk'
       by_cases h0:k'=2∧j=0
       · obtain ⟨rfl,rfl⟩:=h0
         simp [t7,A1]
         refine .prow _ _ _ _ _ fun j k hj hk=>?_
         by_cases hji:j=i
         · rw [if_neg (show ¬ i+1≤j by omega)];exact .undef _
         · simp [hji]
           by_cases hj2:i≤j
           · rw [if_pos hj2,if_pos (by omega)];exact .refl _
           · rw [if_neg hj2,if_neg (by omega)];exact .undef _
       · rw [if_neg h0]
         by_cases hji:j=i
         · rw [if_neg (show ¬ i+1≤j by omega)];exact .dead _
         · simp [hk',t7,A1,hji,h0]
           by_cases hj2:i≤j
           · rw [if_pos hj2,if_pos (by omega)];exact .refl _
           · rw [if_neg hj2,if_neg (by omega)];exact .refl _
   · have e:i=l.length:=by omega
     subst e
     simp [num,t7,A1]
     refine b5h ?_
     simp [U0,a4z]
theorem c9k {M:Nat→MObj} (l:List LRule) (h0:M (DN 2 0)=a0r l) (h:∀ k j,k < 16→(a1p l k j).live=true→M (DN k j)=a1p l k j):Res M (.own (DN 2 0)) (.list 2 (l.map l5)):=by
 refine .prow _ _ _ _ (a0b l) _ h0 (by simp) (fun x hx=>?_) fun j k hj hk=>?_
 · obtain ⟨y,_,rfl⟩:=List.mem_map.1 hx
   rfl
 have he:l[j]?=some l[j]:=List.getElem?_eq_getElem hj
 have e1:a0b l j k=(a1s l[j] j).getD k .undef:=by unfold a0b;rw [he]
 have e2:(l.map l5).getD j .nilptr=l5 l[j]:=by simp [List.getD_eq_getElem?_getD,he]
 rw [e1,e2]
 generalize l[j]=x at he ⊢
 have:k=0∨k=1:=by omega
 rcases this with rfl | rfl
 · exact .val _
 · exact .row _ 9 _ _ (by rw [h 9 j (by omega) (by unfold a1p;rw [he];rfl)];unfold a1p;rw [he];rfl)
theorem c11 (l:List LWire) (k:Nat) (hx:bdS 1048576 (Z3 1048576) l) (hk:k+G5 a0q l < 8388608):R3 Tryz.prog 55 [.own (DN 4 0),.val (num k)] (dyn (X0 l)) (fun _=>false) (.val (num ((k+G5 a0q l:Nat):Int))) (fun _=>.dead):=by
 refine X3 mixed okp55 (fun i h=>a8d h) (fun i h=>by cases h) ?_
 unfold irp55
 rw [b6]
 have hl:l.length≤1048576:=hx.1
 simp [num]
 refine j9 (X:=Nat) (fun i=>⟨t6 [(0,.own (DN 4 0)),(1,.val (num ((k+G5 a0q (l.take i):Nat):Int))),(5,.val (num i))],b02 [] (fun k' j=>if k'=4∧j=0 then .prow 77 7 l.length (fun j k=>if i≤j then a0a l j k else .undef) else if i≤j then a1o l k' j else .dead)⟩) (fun i=>i≤l.length) (fun i=>l.length - i) 0 (Le.mkDN _ _ _ ?_ ?_ ?_) (Nat.zero_le _) ?_
 · simp [upd,num,PV.kill,G5]
 · intro kp hkp;cases hkp
 · intro k' j hk'
   simp [hk',X0,a2o]
   exact .refl _
 · intro i hi
   unfold irp55_l6
   by_cases h1:i < l.length
   · obtain ⟨x,hxe⟩:∃ x,l[i]=x:=⟨_,rfl⟩
     have he:l[i]?=some x:=by rw [List.getElem?_eq_getElem h1,hxe]
     have hbx:Z3 1048576 x:=by rw [← hxe];exact hx.2 _ (List.getElem_mem h1)
     have ho:∀ k,a0a l i k=(a05 x i).getD k .undef:=fun k=>by unfold a0a;rw [he]
     have hf:∀ k,a1o l k i=a1k x k:=fun k=>by unfold a1o;rw [he]
     have hst:G5 a0q (l.take (i+1))=G5 a0q (l.take i)+a0q x:=by rw [a09 _ h1,hxe]
     have hle:=a32 (f:=a0q) l (i+1)
     obtain ⟨m0,hm0⟩:∃ m,k+G5 a0q (l.take i)=m:=⟨_,rfl⟩
     have q4:x.ids.length≤1048576:=hbx.2.2.1
     obtain ⟨m1,hm1⟩:∃ m,m0+1=m:=⟨_,rfl⟩
     obtain ⟨m2,hm2⟩:∃ m,m1+1=m:=⟨_,rfl⟩
     obtain ⟨m3,hm3⟩:∃ m,m2+1=m:=⟨_,rfl⟩
     obtain ⟨m4,hm4⟩:∃ m,m3+1=m:=⟨_,rfl⟩
     obtain ⟨m5,hm5⟩:∃ m,m4+1*x.ids.length=m:=⟨_,rfl⟩
     obtain ⟨m6,hm6⟩:∃ m,m5+1=m:=⟨_,rfl⟩
     obtain ⟨m7,hm7⟩:∃ m,m6+1=m:=⟨_,rfl⟩
     have hcx:a0q x=6+x.ids.length:=rfl
     have hlast:k+G5 a0q (l.take (i+1))=m7:=by omega
     have s0:IntKind.i64.wrap ((m0:Int)+1)=(m1:Int):=by rw [wrap_i64 (by omega) (by omega)];omega
     have s1:IntKind.i64.wrap ((m1:Int)+1)=(m2:Int):=by rw [wrap_i64 (by omega) (by omega)];omega
     have s2:IntKind.i64.wrap ((m2:Int)+1)=(m3:Int):=by rw [wrap_i64 (by omega) (by omega)];omega
     have hk2:=a04 m2 (by omega)
     have s3:IntKind.i64.wrap ((m3:Int)+1)=(m4:Int):=by rw [wrap_i64 (by omega) (by omega)];omega
     have hk3:=a04 m3 (by omega)
     have hk4:=b49 x.ids m4 (by omega) q4
     rw [hm5] at hk4
     have s5:IntKind.i64.wrap ((m5:Int)+1)=(m6:Int):=by rw [wrap_i64 (by omega) (by omega)];omega
     have hk5:=a04 m5 (by omega)
     have s6:IntKind.i64.wrap ((m6:Int)+1)=(m7:Int):=by rw [wrap_i64 (by omega) (by omega)];omega
     rw [hm0]
     simp [num,tx,h1,ho,hf,t7,A1,a05,a1k,s0,s1,s2,s3,s5,s6]
     refine b7 rfl rfl (.inl rfl) hk2 ?_
     simp [num,tx,h1,ho,hf,t7,A1,a05,a1k,s0,s1,s2,s3,s5,s6]
     refine b7 rfl rfl (.inl rfl) hk3 ?_
     simp [num,tx,h1,ho,hf,t7,A1,a05,a1k,s0,s1,s2,s3,s5,s6]
     refine b71 (by simp [PV.plain1]) rfl rfl rfl hk4 rfl ?_
     simp [num,tx,h1,ho,hf,t7,A1,a05,a1k,s0,s1,s2,s3,s5,s6]
     refine b7 rfl rfl (.inl rfl) hk5 ?_
     simp [num,tx,h1,ho,hf,t7,A1,a05,a1k,s0,s1,s2,s3,s5,s6]
     refine LoopNext.mk (i+1) h1 (by omega) (Le.mkDN _ _ _ ?_ ?_ ?_)
     · simp only [hlast]
       simp [num,s0,s1,s2,s3,s5,s6]
       exact wrap_i64 (by omega) (by omega)
     · intro kp hkp;cases hkp
     · intro k' j hk'
       by_cases h0:k'=4∧j=0
       · obtain ⟨rfl,rfl⟩:=h0
         simp [t7,A1]
         refine .prow _ _ _ _ _ fun j k hj hk=>?_
         by_cases hji:j=i
         · rw [if_neg (show ¬ i+1≤j by omega)];exact .undef _
         · simp [hji]
           by_cases hj2:i≤j
           · rw [if_pos hj2,if_pos (by omega)];exact .refl _
           · rw [if_neg hj2,if_neg (by omega)];exact .undef _
       · rw [if_neg h0]
         by_cases hji:j=i
         · rw [if_neg (show ¬ i+1≤j by omega)];exact .dead _
         · simp [hk',t7,A1,hji,h0]
           by_cases hj2:i≤j
           · rw [if_pos hj2,if_pos (by omega)];exact .refl _
           · rw [if_neg hj2,if_neg (by omega)];exact .refl _
   · have e:i=l.length:=by omega
     subst e
     simp [num,t7,A1]
     refine b5h ?_
     simp [U0,a4z]
theorem c9j {M:Nat→MObj} (l:List LWire) (h0:M (DN 4 0)=a2o l) (h:∀ k j,k < 16→(a1o l k j).live=true→M (DN k j)=a1o l k j):Res M (.own (DN 4 0)) (.list 7 (l.map H7)):=by
 refine .prow _ _ _ _ (a0a l) _ h0 (by simp) (fun x hx=>?_) fun j k hj hk=>?_
 · obtain ⟨y,_,rfl⟩:=List.mem_map.1 hx
   rfl
 have he:l[j]?=some l[j]:=List.getElem?_eq_getElem hj
 have e1:a0a l j k=(a05 l[j] j).getD k .undef:=by unfold a0a;rw [he]
 have e2:(l.map H7).getD j .nilptr=H7 l[j]:=by simp [List.getD_eq_getElem?_getD,he]
 rw [e1,e2]
 generalize l[j]=x at he ⊢
 have:k=0∨k=1∨k=2∨k=3∨k=4∨k=5∨k=6:=by omega
 rcases this with rfl | rfl | rfl | rfl | rfl | rfl | rfl
 · exact .val _
 · exact .val _
 · exact .val _
 · exact .val _
 · exact .row _ 3 _ _ (by rw [h 10 j (by omega) (by unfold a1o;rw [he];rfl)];unfold a1o;rw [he];rfl)
 · exact .val _
 · exact .val _
theorem b5q (l:List LChannel) (k:Nat) (hx:bdS 1048576 (R1 1048576) l) (hk:k+G5 T2 l < 8388608):R3 Tryz.prog 53 [.own (DN 0 0),.val (num k)] (dyn (P2 l)) (fun _=>false) (.val (num ((k+G5 T2 l:Nat):Int))) (fun _=>.dead):=by
 refine X3 mixed okp53 (fun i h=>a8d h) (fun i h=>by cases h) ?_
 unfold irp53
 rw [b6]
 have hl:l.length≤1048576:=hx.1
 simp [num]
 refine j9 (X:=Nat) (fun i=>⟨t6 [(0,.own (DN 0 0)),(1,.val (num ((k+G5 T2 (l.take i):Nat):Int))),(5,.val (num i))],b02 [] (fun k' j=>if k'=0∧j=0 then .prow 120 6 l.length (fun j k=>if i≤j then S7 l j k else .undef) else if i≤j then Q7 l k' j else .dead)⟩) (fun i=>i≤l.length) (fun i=>l.length - i) 0 (Le.mkDN _ _ _ ?_ ?_ ?_) (Nat.zero_le _) ?_
 · simp [upd,num,PV.kill,G5]
 · intro kp hkp;cases hkp
 · intro k' j hk'
   simp [hk',P2,U8]
   exact .refl _
 · intro i hi
   unfold irp53_l6
   by_cases h1:i < l.length
   · obtain ⟨x,hxe⟩:∃ x,l[i]=x:=⟨_,rfl⟩
     have he:l[i]?=some x:=by rw [List.getElem?_eq_getElem h1,hxe]
     have hbx:R1 1048576 x:=by rw [← hxe];exact hx.2 _ (List.getElem_mem h1)
     have ho:∀ k,S7 l i k=(S6 x i).getD k .undef:=fun k=>by unfold S7;rw [he]
     have hf:∀ k,Q7 l k i=T7 x k:=fun k=>by unfold Q7;rw [he]
     have hst:G5 T2 (l.take (i+1))=G5 T2 (l.take i)+T2 x:=by rw [a09 _ h1,hxe]
     have hle:=a32 (f:=T2) l (i+1)
     obtain ⟨m0,hm0⟩:∃ m,k+G5 T2 (l.take i)=m:=⟨_,rfl⟩
     have q2:x.group.targets.length≤1048576:=hbx.1.2.1
     have q3:x.peers.length≤1048576:=hbx.2.1.1
     have q4:x.queue.items.length≤1048576:=hbx.2.2.1.1
     have q5:x.queue.recent.length≤1048576:=hbx.2.2.2.1
     obtain ⟨m1,hm1⟩:∃ m,m0+1=m:=⟨_,rfl⟩
     obtain ⟨m2,hm2⟩:∃ m,m1+1=m:=⟨_,rfl⟩
     obtain ⟨m3,hm3⟩:∃ m,m2+3*x.group.targets.length=m:=⟨_,rfl⟩
     obtain ⟨m4,hm4⟩:∃ m,m3+6*x.peers.length=m:=⟨_,rfl⟩
     obtain ⟨m5,hm5⟩:∃ m,m4+4*x.queue.items.length=m:=⟨_,rfl⟩
     obtain ⟨m6,hm6⟩:∃ m,m5+1*x.queue.recent.length=m:=⟨_,rfl⟩
     have hcx:T2 x=2+3*x.group.targets.length+6*x.peers.length+4*x.queue.items.length+x.queue.recent.length:=rfl
     have hlast:k+G5 T2 (l.take (i+1))=m6:=by omega
     have s0:IntKind.i64.wrap ((m0:Int)+1)=(m1:Int):=by rw [wrap_i64 (by omega) (by omega)];omega
     have hk0:=a04 m0 (by omega)
     have s1:IntKind.i64.wrap ((m1:Int)+1)=(m2:Int):=by rw [wrap_i64 (by omega) (by omega)];omega
     have hk2:=b6v x.group.targets m2 (by omega) q2
     rw [hm3] at hk2
     have hk3:=c1e x.peers m3 (by omega) q3
     rw [hm4] at hk3
     have hk4:=b6w x.queue.items m4 (by omega) q4
     rw [hm5] at hk4
     have hk5:=a5y x.queue.recent m5 (by omega) q5
     rw [hm6] at hk5
     rw [hm0]
     simp [num,tx,h1,ho,hf,t7,A1,S6,T7,s0,s1]
     refine b7 rfl rfl (.inl rfl) hk0 ?_
     simp [num,tx,h1,ho,hf,t7,A1,S6,T7,s0,s1]
     refine b71 (by simp [PV.plain1]) rfl rfl rfl hk2 rfl ?_
     simp [num,tx,h1,ho,hf,t7,A1,S6,T7,s0,s1]
     refine b71 (by simp [PV.plain1]) rfl rfl rfl hk3 rfl ?_
     simp [num,tx,h1,ho,hf,t7,A1,S6,T7,s0,s1]
     refine b71 (by simp [PV.plain1]) rfl rfl rfl hk4 rfl ?_
     simp [num,tx,h1,ho,hf,t7,A1,S6,T7,s0,s1]
     refine b71 (by simp [PV.plain1]) rfl rfl rfl hk5 rfl ?_
     simp [num,tx,h1,ho,hf,t7,A1,S6,T7,s0,s1]
     refine LoopNext.mk (i+1) h1 (by omega) (Le.mkDN _ _ _ ?_ ?_ ?_)
     · simp only [hlast]
       simp [num,s0,s1]
       exact wrap_i64 (by omega) (by omega)
     · intro kp hkp;cases hkp
     · intro k' j hk'
       by_cases h0:k'=0∧j=0
       · obtain ⟨rfl,rfl⟩:=h0
         simp [t7,A1]
         refine .prow _ _ _ _ _ fun j k hj hk=>?_
         by_cases hji:j=i
         · rw [if_neg (show ¬ i+1≤j by omega)];exact .undef _
         · simp [hji]
           by_cases hj2:i≤j
           · rw [if_pos hj2,if_pos (by omega)];exact .refl _
           · rw [if_neg hj2,if_neg (by omega)];exact .undef _
       · rw [if_neg h0]
         by_cases hji:j=i
         · rw [if_neg (show ¬ i+1≤j by omega)];exact .dead _
         · simp [hk',t7,A1,hji,h0]
           by_cases hj2:i≤j
           · rw [if_pos hj2,if_pos (by omega)];exact .refl _
           · rw [if_neg hj2,if_neg (by omega)];exact .refl _
   · have e:i=l.length:=by omega
     subst e
     simp [num,t7,A1]
     refine b5h ?_
     simp [U0,a4z]
theorem b91 {M:Nat→MObj} (l:List LChannel) (h0:M (DN 0 0)=U8 l) (h:∀ k j,k < 16→(Q7 l k j).live=true→M (DN k j)=Q7 l k j):Res M (.own (DN 0 0)) (.list 6 (l.map j7)):=by
 refine .prow _ _ _ _ (S7 l) _ h0 (by simp) (fun x hx=>?_) fun j k hj hk=>?_
 · obtain ⟨y,_,rfl⟩:=List.mem_map.1 hx
   rfl
 have he:l[j]?=some l[j]:=List.getElem?_eq_getElem hj
 have e1:S7 l j k=(S6 l[j] j).getD k .undef:=by unfold S7;rw [he]
 have e2:(l.map j7).getD j .nilptr=j7 l[j]:=by simp [List.getD_eq_getElem?_getD,he]
 rw [e1,e2]
 generalize l[j]=x at he ⊢
 have:k=0∨k=1∨k=2∨k=3∨k=4∨k=5:=by omega
 rcases this with rfl | rfl | rfl | rfl | rfl | rfl
 · exact .val _
 · exact .val _
 · exact .row _ 162 _ _ (by rw [h 5 j (by omega) (by unfold Q7;rw [he];rfl)];unfold Q7;rw [he];rfl)
 · exact .row _ 164 _ _ (by rw [h 6 j (by omega) (by unfold Q7;rw [he];rfl)];unfold Q7;rw [he];rfl)
 · exact .row _ 146 _ _ (by rw [h 7 j (by omega) (by unfold Q7;rw [he];rfl)];unfold Q7;rw [he];rfl)
 · exact .row _ 9 _ _ (by rw [h 8 j (by omega) (by unfold Q7;rw [he];rfl)];unfold Q7;rw [he];rfl)
end Go.Proofs
end
section
namespace Go.Proofs
open Go.PW Go.KP
attribute [local simp] RV.cells RV.one PV.cells PV.solid PV.one G4 i7 L9 L6 RV.ofCells elems PV.killL
variable [GF]
attribute [local simp] a7f b3c c0f c0g c0e b7a a4n b5o a95 b7t b2g b6c b0o
theorem b9a (p:LPolicy) (k:Nat) (hx:a0h 1048576 p) (hk:k+p.uris.length+G5 Y8 p.rules < 8388608):R3 Tryz.prog 54 [.agg (a3i p),.val (num k)] (dyn (P0 p)) (fun _=>false) (.val (num ((k+p.uris.length+G5 Y8 p.rules:Nat):Int))) (fun _=>.dead):=by
 refine X3 mixed ok54 (fun i h=>a8d h) (fun i h=>by cases h) ?_
 unfold ir54
 rw [b6]
 obtain ⟨b0,b1,b2⟩:=hx
 have hl1:p.uris.length≤1048576:=b1.1
 have h1:=a5y p.uris k (by omega) hl1
 have h2:=c12 p.rules (k+p.uris.length) b2 (by omega)
 rw [Nat.one_mul] at h1
 obtain ⟨m,hm⟩:∃ m,k+p.uris.length=m:=⟨_,rfl⟩
 rw [hm] at h1 h2 ⊢
 simp [num,tx,a3i,P0,U7,a0r]
 refine b71 (by simp [PV.plain1]) rfl rfl rfl h1 rfl ?_
 simp [num,tx,a3i,P0,U7,a0r]
 refine c19 (G:=U7 p.rules) (fun k i=>k == 9 || k == 2 && i == 0) h2 ?_ ?_ ?_
 · intro q hq
   simp only [List.mem_cons,List.not_mem_nil,or_false] at hq
   rcases hq with rfl | rfl
   · exact O7 (by simp)
   · exact S4
 · intro k i hk' hl
   obtain ⟨e1,e2,_⟩:=a6d p.rules k i (S:=TD fun k i=>k == 9 || k == 2 && i == 0) (fun k j h=>by subst h;simp) hl
   refine ⟨e1,?_,e2⟩
   have h5:¬ (k=1∧i=0):=by simp at e1;omega
   simp [hk',h5,P0]
   rw [c0l _ _ _ _ fun k j h=>by simp]
 simp [num]
 refine b5h ?_
 simp [U0,a4z,num]
theorem c4v (p:LPipe) (k:Nat) (hx:Z4 1048576 p) (hk:k+a62 p < 8388608):R3 Tryz.prog 19 [.agg (a30 p),.val (num k)] (dyn (Q9 p)) (fun _=>false) (.val (num ((k+a62 p:Nat):Int))) (fun _=>.dead):=by
 refine X3 mixed ok19 (fun i h=>a8d h) (fun i h=>by cases h) ?_
 unfold ir19
 rw [b6]
 obtain ⟨b0,b1,b2,b3⟩:=hx
 have hcp:a62 p=G5 T2 p.channels+p.policy.uris.length+G5 Y8 p.policy.rules+3*p.log.length+G5 a0q p.wires:=rfl
 obtain ⟨m1,hm1⟩:∃ m,k+G5 T2 p.channels=m:=⟨_,rfl⟩
 obtain ⟨m2,hm2⟩:∃ m,m1+p.policy.uris.length+G5 Y8 p.policy.rules=m:=⟨_,rfl⟩
 obtain ⟨m3,hm3⟩:∃ m,m2+3*p.log.length=m:=⟨_,rfl⟩
 obtain ⟨m4,hm4⟩:∃ m,m3+G5 a0q p.wires=m:=⟨_,rfl⟩
 have h1:=b5q p.channels k b0 (by omega)
 have h2:=b9a p.policy m1 b1 (by omega)
 have h3:=b83 p.log m2 (by omega) b2
 have h4:=c11 p.wires m3 b3 (by omega)
 have hm:k+a62 p=m4:=by omega
 rw [hm1] at h1
 rw [hm2] at h2
 rw [hm3] at h3
 rw [hm4] at h4
 rw [hm]
 simp [num,tx,a30,Q9,P0,U7,a0r,P2,U8,X0,a2o]
 refine c19 (G:=P2 p.channels) (fun k i=>(k == 5 || k == 6 || k == 7 || k == 8) || k == 0 && i == 0) h1 ?_ ?_ ?_
 · intro q hq
   simp only [List.mem_cons,List.not_mem_nil,or_false] at hq
   rcases hq with rfl | rfl
   · exact O7 (by simp)
   · exact S4
 · intro k i hk' hl
   obtain ⟨e1,e2,_⟩:=a1y p.channels k i (S:=TD fun k i=>(k == 5 || k == 6 || k == 7 || k == 8) || k == 0 && i == 0) (fun k j h=>by rcases h with rfl | rfl | rfl | rfl<;>simp) hl
   refine ⟨e1,?_,e2⟩
   have h5:¬ (k=3∧i=0)∧¬ (k=1∧i=0∨k=2∧i=0∨k=9)∧¬ (k=4∧i=0∨k=10):=by simp at e1;omega
   simp [hk',Q9,h5.1,h5.2.1,h5.2.2]
   rw [a28 _ _ _ _ fun k j h=>by simp]
 simp [num,tx,a30,Q9,P0,U7,a0r,P2,U8,X0,a2o]
 refine c19 (G:=P0 p.policy) (fun k i=>k == 1 && i == 0 || k == 9 || k == 2 && i == 0) h2 ?_ ?_ ?_
 · intro q hq
   simp only [List.mem_cons,List.not_mem_nil,or_false] at hq
   rcases hq with rfl | rfl
   · exact a2d fun q hq=>by
      simp only [a3i,List.mem_cons,List.not_mem_nil,or_false] at hq
      rcases hq with rfl | rfl | rfl
      · exact S4
      · exact O7 (by simp)
      · exact O7 (by simp)
   · exact S4
 · intro k i hk' hl
   obtain ⟨e1,e2,_⟩:=a5j p.policy k i (S:=TD fun k i=>k == 1 && i == 0 || k == 9 || k == 2 && i == 0) (fun k j h=>by subst h;simp) hl
   refine ⟨e1,?_,e2⟩
   have h5:¬ (k=3∧i=0)∧(k=1∧i=0∨k=2∧i=0∨k=9)∧¬ ((((k=5∨k=6)∨k=7)∨k=8)∨k=0∧i=0):=by simp at e1;omega
   simp [hk',Q9,h5.1,h5.2.1,h5.2.2]
   rw [a31 _ _ _ _ fun k j h=>by simp,a31 _ _ _ _ fun k j h=>by subst h;simp]
 simp [num,tx,a30,Q9,P0,U7,a0r,P2,U8,X0,a2o]
 refine b71 (by simp [PV.plain1]) rfl rfl rfl h3 rfl ?_
 simp [num,tx,a30,Q9,P0,U7,a0r,P2,U8,X0,a2o]
 refine c19 (G:=X0 p.wires) (fun k i=>(k == 10) || k == 4 && i == 0) h4 ?_ ?_ ?_
 · intro q hq
   simp only [List.mem_cons,List.not_mem_nil,or_false] at hq
   rcases hq with rfl | rfl
   · exact O7 (by simp)
   · exact S4
 · intro k i hk' hl
   obtain ⟨e1,e2,_⟩:=a82 p.wires k i (S:=TD fun k i=>(k == 10) || k == 4 && i == 0) (fun k j h=>by subst h;simp) hl
   refine ⟨e1,?_,e2⟩
   have h5:¬ (k=3∧i=0)∧¬ (k=1∧i=0∨k=2∧i=0∨k=9)∧(k=4∧i=0∨k=10)∧¬ ((((k=5∨k=6)∨k=7)∨k=8)∨k=0∧i=0)∧¬ ((k=1∧i=0∨k=9)∨k=2∧i=0):=by simp at e1;omega
   simp [hk',Q9,h5.1,h5.2.1,h5.2.2.1,h5.2.2.2.1,h5.2.2.2.2]
   rw [a7u _ _ _ _ fun k j h=>by simp,a7u _ _ _ _ fun k j h=>by subst h;simp,a7u _ _ _ _ fun k j h=>by subst h;simp]
 simp [num]
 refine b5h ?_
 simp [U0,a4z,num]
theorem a7v (p:LPipe) (k i:Nat) (h:k=1∧i=0∨k=2∧i=0∨k=9):Q9 p k i=P0 p.policy k i:=by
 unfold Q9;rw [if_neg (by omega),if_pos h]
theorem b7d (p:LPipe) (k i:Nat) (h:k=4∧i=0∨k=10):Q9 p k i=X0 p.wires k i:=by
 unfold Q9;rw [if_neg (by omega),if_neg (by omega),if_pos h]
theorem b03 (p:LPipe) (k i:Nat) (h:k=0∧i=0∨k=5∨k=6∨k=7∨k=8):Q9 p k i=P2 p.channels k i:=by
 unfold Q9;rw [if_neg (by omega),if_neg (by omega),if_neg (by omega)]
theorem b1z (p:LPipe) (k i:Nat) (h:(Q9 p k i).live=true):a0n k i=true:=by
 unfold Q9 at h
 unfold a0n
 split at h
 · rename_i e;simp [e]
 split at h
 · rename_i e;rcases e with e | e | e<;>simp [e]
 split at h
 · rename_i e;rcases e with e | e<;>simp [e]
 · have:=(a1y p.channels k i (S:=fun _=>true) (fun _ _ _=>rfl) h).1
   simp at this
   simp;omega
theorem a6e (p:LPipe) (k i:Nat):(Q9 p k i).onT (TD a0n):=by
 unfold Q9
 split
 · exact U1
 split
 · exact a5i p.policy k i fun k j h=>by subst h;simp [a0n]
 split
 · exact b1y p.wires k i fun k j h=>by subst h;simp [a0n]
 · exact a6u p.channels k i fun k j h=>by rcases h with rfl | rfl | rfl | rfl<;>simp [a0n]
theorem a91 (p:LPipe) (k i:Nat):∀ cs,Q9 p k i≠.box cs:=by
 intro cs h
 have hl:(Q9 p k i).live=true:=by rw [h];rfl
 unfold Q9 at h hl
 split at h
 · cases h
 rename_i h0
 rw [if_neg h0] at hl
 split at h
 · rename_i e;rw [if_pos e] at hl;exact (a5j p.policy k i (S:=fun _=>true) (fun _ _ _=>rfl) hl).2.2 cs h
 rename_i h1
 rw [if_neg h1] at hl
 split at h
 · rename_i e;rw [if_pos e] at hl;exact (a82 p.wires k i (S:=fun _=>true) (fun _ _ _=>rfl) hl).2.2 cs h
 · rename_i e;rw [if_neg e] at hl;exact (a1y p.channels k i (S:=fun _=>true) (fun _ _ _=>rfl) hl).2.2 cs h
theorem c0m (p:LPipe) (k i:Nat) (d:Nat→Bool) (h:∀ x,TD a0n x=true→d x=false):(Q9 p k i).kill d=Q9 p k i:=(a6e p k i).2 d h
theorem b10 (p:LPipe) (k i n:Nat) (hn:n < 1000000):(Q9 p k i).kill (fun x=>x == n)=Q9 p k i:=c0m p k i _ fun x hx=>by
 have:=TD_D hx
 simp [isD] at this
 simp;omega
theorem a9b (p:LPipe):(PV.agg (a30 p)).onT (TD a0n):=a2d fun q hq=>by
 simp only [a30,List.mem_cons,List.not_mem_nil,or_false] at hq
 rcases hq with rfl | rfl | rfl | rfl | rfl | rfl | rfl | rfl
 · exact O7 (by simp [a0n])
 · exact S4
 · exact O7 (by simp [a0n])
 · exact O7 (by simp [a0n])
 · exact S4
 · exact S4
 · exact O7 (by simp [a0n])
 · exact O7 (by simp [a0n])
theorem b4f (p:LPipe) (M:Nat→MObj) (h:∀ k j,k < 16→a0n k j=true→M (DN k j)=Q9 p k j):Res M (.agg (a30 p)) (G2 p):=by
 have hc:=b91 (M:=M) p.channels (by rw [h 0 0 (by omega) (by simp [a0n]),b03 _ _ _ (by omega)];simp [P2]) fun k j hk hl=>by
  rcases a34 p.channels k j with ⟨h',_,_⟩ | e
  · rw [h k j hk (by rcases h' with rfl | rfl | rfl | rfl<;>simp [a0n]),b03 _ _ _ (by omega)]
    unfold P2;rw [if_neg (by omega)]
  · rw [e] at hl;cases hl
 have hr:=c9k (M:=M) p.policy.rules (by rw [h 2 0 (by omega) (by simp [a0n]),a7v _ _ _ (by omega)];simp [P0,U7]) fun k j hk hl=>by
  rcases a60 p.policy.rules k j with ⟨h',_,_⟩ | e
  · rw [h k j hk (by subst h';simp [a0n]),a7v _ _ _ (by omega)]
    unfold P0 U7;rw [if_neg (by omega),if_neg (by omega)]
  · rw [e] at hl;cases hl
 have hw:=c9j (M:=M) p.wires (by rw [h 4 0 (by omega) (by simp [a0n]),b7d _ _ _ (by omega)];simp [X0]) fun k j hk hl=>by
  rcases a6z p.wires k j with ⟨h',_,_⟩ | e
  · rw [h k j hk (by subst h';simp [a0n]),b7d _ _ _ (by omega)]
    unfold X0;rw [if_neg (by omega)]
  · rw [e] at hl;cases hl
 refine .agg _ _ rfl fun i hi=>?_
 have:i=0∨i=1∨i=2∨i=3∨i=4∨i=5∨i=6∨i=7:=by simp [a30] at hi;omega
 rcases this with rfl | rfl | rfl | rfl | rfl | rfl | rfl | rfl
 · exact hc
 · exact .val _
 · exact .row _ 9 _ _ (by rw [h 1 0 (by omega) (by simp [a0n]),a7v _ _ _ (by omega)];simp [P0])
 · exact hr
 · exact .val _
 · exact .val _
 · exact .row _ 83 _ _ (by rw [h 3 0 (by omega) (by simp [a0n])];simp [Q9])
 · exact hw
theorem b30 (p:LPipe) (hs:Z4 1048576 p):d8 Tryz.prog 11 [.val (G2 p)] (.ret (.val (G2 p)) []) []:=
 ok_of_mem (c1z p hs) (b4f p _ fun k j hk _=>a4n hk)
end Go.Proofs
end
