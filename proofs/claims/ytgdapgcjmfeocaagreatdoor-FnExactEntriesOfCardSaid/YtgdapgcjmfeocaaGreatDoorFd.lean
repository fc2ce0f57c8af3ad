/- Fd: merged out of KXb, KXc, KXd, KXe. -/
import Derived.Test.YtgdapgcjmfeocaaGreatDoorFc
import Derived.Test.YtgdapgcjmfeocaaGreatDoorPWaf
import Derived.Test.YtgdapgcjmfeocaaGreatDoorPWag
set_option linter.unusedSectionVars false
set_option linter.unusedSimpArgs false
set_option linter.unusedVariables false
set_option maxRecDepth 100000
section
namespace Go.Proofs
open Go.PW Go.KP
attribute [local simp] RV.cells RV.one PV.cells PV.solid PV.one vals? allVal mkAgg setAt RV.ofCells elems PV.killL
variable [GF]
attribute [local simp] TD_DN TD_lo nK_lo nK_DN nM_lo nM_DN dyn_DN dyn_lo isD_lo DN_lo DN_lo' DN_inj DN_isD
theorem flat_map {α:Type} {f:α→RV} (h:∀ x,(f x).flat=true) (l:List α):∀ x∈l.map f,x.flat=true:=fun x hx=>by
 obtain ⟨y,_,rfl⟩:=List.mem_map.1 hx
 exact h y
theorem d_toStringS (l:List Tx) (k j:Nat) (hk:k < 16) (hx:bdS 1048576 (fun t=>t.length≤1048576) l):CallMem Tryz.prog 76 [.val (.list 1 (l.map tx))] (fun _=>.dead) (fun _=>false) (.own (DN k j)) (dyn fun k' j'=>if k'=k∧j'=j then .row 9 1 (l.map tx) else .dead):=
 mem_new (g_toStringS_own2 l hx) (flat_map (fun _=>rfl) l) k j hk
theorem d_toIntS (l:List Int) (k j:Nat) (hk:k < 16) (hx:l.length≤1048576):CallMem Tryz.prog 120 [.val (.list 1 (l.map num))] (fun _=>.dead) (fun _=>false) (.own (DN k j)) (dyn fun k' j'=>if k'=k∧j'=j then .row 3 1 (l.map num) else .dead):=
 mem_new (g_toIntS_own2 l hx) (flat_map (fun _=>rfl) l) k j hk
theorem d_toTargetS (l:List LTarget) (k j:Nat) (hk:k < 16) (hx:bdS 1048576 (bdTarget 1048576) l):CallMem Tryz.prog 155 [.val (.list 3 (l.map rvTarget))] (fun _=>.dead) (fun _=>false) (.own (DN k j)) (dyn fun k' j'=>if k'=k∧j'=j then .row 162 3 (l.map rvTarget) else .dead):=
 mem_new (g_toTargetS_own2 l hx) (flat_map (fun _=>rfl) l) k j hk
theorem d_toPeerS (l:List LPeer) (k j:Nat) (hk:k < 16) (hx:bdS 1048576 (bdPeer 1048576) l):CallMem Tryz.prog 117 [.val (.list 6 (l.map rvPeer))] (fun _=>.dead) (fun _=>false) (.own (DN k j)) (dyn fun k' j'=>if k'=k∧j'=j then .row 164 6 (l.map rvPeer) else .dead):=
 mem_new (g_toPeerS_own2 l hx) (flat_map (fun _=>rfl) l) k j hk
theorem d_toReportS (l:List LReport) (k j:Nat) (hk:k < 16) (hx:bdS 1048576 (bdReport 1048576) l):CallMem Tryz.prog 157 [.val (.list 4 (l.map rvReport))] (fun _=>.dead) (fun _=>false) (.own (DN k j)) (dyn fun k' j'=>if k'=k∧j'=j then .row 146 4 (l.map rvReport) else .dead):=
 mem_new (g_toReportS_own2 l hx) (flat_map (fun _=>rfl) l) k j hk
theorem d_toEntryS (l:List LEntry) (k j:Nat) (hk:k < 16) (hx:l.length≤1048576):CallMem Tryz.prog 39 [.val (.list 3 (l.map rvEntry))] (fun _=>.dead) (fun _=>false) (.own (DN k j)) (dyn fun k' j'=>if k'=k∧j'=j then .row 83 3 (l.map rvEntry) else .dead):=
 mem_new (g_toEntryS_own2 l hx) (flat_map (fun _=>rfl) l) k j hk
def cDGroup (x:LGroup) (j:Nat):List PV:=[.val (tx x.name),.val (num x.age),.own (DN 5 j)]
def rDGroup (x:LGroup) (k:Nat):MObj:=if k=5 then .row 162 3 (x.targets.map rvTarget) else .dead
theorem rDGroup_row (x:LGroup) (k:Nat):((k=5)∧∃ E sz xs,rDGroup x k=.row E sz xs)∨rDGroup x k=.dead∧¬ (k=5):=by
 by_cases h:k=5
 · refine .inl ⟨h,?_⟩
   unfold rDGroup
   subst h;simp
 · refine .inr ⟨?_,h⟩
   unfold rDGroup
   skip
   simp [h]
theorem cDGroup_on (x:LGroup) (j:Nat) {S:Nat→Bool} (h:∀ k,(k=5)→S (DN k j)=true):(PV.agg (cDGroup x j)).onT S:=by
 refine onT_aggs fun p hp=>?_
 simp only [cDGroup,List.mem_cons,List.not_mem_nil,or_false] at hp
 rcases hp with rfl | rfl | rfl
 · exact onT_val
 · exact onT_val
 · exact onT_own (h _ (by simp))
theorem d_toGroup (x:LGroup) (j:Nat) (hx:bdGroup 1048576 x):CallMem Tryz.prog 116 [.val (rvGroup x)] (fun _=>.dead) (fun _=>false) (.agg (cDGroup x j)) (dyn fun k i=>if i=j then rDGroup x k else .dead):=by
 refine callM_ok mixed ok116 (fun i h=>by cases h) (fun i h=>by cases h) ?_
 unfold ir116
 rw [evalC_intro]
 unfold bdGroup at hx
 obtain ⟨b0,b1⟩:=hx
 simp [rvGroup,tx,num]
 refine callN (rs:=[.list 3 (x.targets.map rvTarget)]) (fun k' i'=>k' == 5 && i' == j) rfl (d_toTargetS x.targets 5 j (by omega) b1) ?_ ?_ ?_
 · intro k i hk hl
   by_cases h:k=5∧i=j
   · rw [if_pos h]
     exact ⟨by simp [h],onT_row,fun cs h=>by cases h⟩
   · rw [if_neg h] at hl;cases hl
 · exact onT_own (by simp)
 simp [rvGroup,tx,num]
 refine finM_D _ ?_ ?_ ?_ ?_
 · simp [cDGroup,rDGroup,rvGroup,tx,num,resP,resV]
 · intro k i hk hl
   by_cases h:i=j
   · subst h
     rw [if_pos rfl] at hl ⊢
     rcases rDGroup_row x k with ⟨h,E,sz,xs,e⟩ | ⟨h,_⟩
     · subst h<;>simp [cDGroup,rDGroup]
     · rw [h] at hl;cases hl
   · rw [if_neg h] at hl;cases hl
 · exact cDGroup_on x j fun k _=>by simp
 · intro k i hk
   by_cases h:i=j
   · rw [if_pos h]
     rcases rDGroup_row x k with ⟨h,E,sz,xs,e⟩ | ⟨h,_⟩
     · rw [e];exact onT_row
     · rw [h];exact onT_dead
   · rw [if_neg h];exact onT_dead
def cDQueue (x:LQueue) (j:Nat):List PV:=[.own (DN 7 j),.own (DN 8 j)]
def rDQueue (x:LQueue) (k:Nat):MObj:=if k=7 then .row 146 4 (x.items.map rvReport) else if k=8 then .row 9 1 (x.recent.map tx) else .dead
theorem rDQueue_row (x:LQueue) (k:Nat):((k=7∨k=8)∧∃ E sz xs,rDQueue x k=.row E sz xs)∨rDQueue x k=.dead∧¬ (k=7∨k=8):=by
 by_cases h:k=7∨k=8
 · refine .inl ⟨h,?_⟩
   unfold rDQueue
   rcases h with rfl | rfl<;>simp
 · refine .inr ⟨?_,h⟩
   unfold rDQueue
   simp only [not_or] at h
   simp [h]
theorem cDQueue_on (x:LQueue) (j:Nat) {S:Nat→Bool} (h:∀ k,(k=7∨k=8)→S (DN k j)=true):(PV.agg (cDQueue x j)).onT S:=by
 refine onT_aggs fun p hp=>?_
 simp only [cDQueue,List.mem_cons,List.not_mem_nil,or_false] at hp
 rcases hp with rfl | rfl
 · exact onT_own (h _ (by simp))
 · exact onT_own (h _ (by simp))
theorem d_toQueue (x:LQueue) (j:Nat) (hx:bdQueue 1048576 x):CallMem Tryz.prog 118 [.val (rvQueue x)] (fun _=>.dead) (fun _=>false) (.agg (cDQueue x j)) (dyn fun k i=>if i=j then rDQueue x k else .dead):=by
 refine callM_ok mixed ok118 (fun i h=>by cases h) (fun i h=>by cases h) ?_
 unfold ir118
 rw [evalC_intro]
 unfold bdQueue at hx
 obtain ⟨b0,b1⟩:=hx
 simp [rvQueue,tx,num]
 refine callN (rs:=[.list 4 (x.items.map rvReport)]) (fun k' i'=>k' == 7 && i' == j) rfl (d_toReportS x.items 7 j (by omega) b0) ?_ ?_ ?_
 · intro k i hk hl
   by_cases h:k=7∧i=j
   · rw [if_pos h]
     exact ⟨by simp [h],onT_row,fun cs h=>by cases h⟩
   · rw [if_neg h] at hl;cases hl
 · exact onT_own (by simp)
 simp [rvQueue,tx,num]
 refine callN (rs:=[.list 1 (x.recent.map tx)]) (fun k' i'=>k' == 8 && i' == j) rfl (d_toStringS x.recent 8 j (by omega) b1) ?_ ?_ ?_
 · intro k i hk hl
   by_cases h:k=8∧i=j
   · rw [if_pos h]
     exact ⟨by simp [h],onT_row,fun cs h=>by cases h⟩
   · rw [if_neg h] at hl;cases hl
 · exact onT_own (by simp)
 simp [rvQueue,tx,num]
 refine finM_D _ ?_ ?_ ?_ ?_
 · simp [cDQueue,rDQueue,rvQueue,tx,num,resP,resV]
 · intro k i hk hl
   by_cases h:i=j
   · subst h
     rw [if_pos rfl] at hl ⊢
     rcases rDQueue_row x k with ⟨h,E,sz,xs,e⟩ | ⟨h,_⟩
     · rcases h with rfl | rfl<;>simp [cDQueue,rDQueue]
     · rw [h] at hl;cases hl
   · rw [if_neg h] at hl;cases hl
 · exact cDQueue_on x j fun k _=>by simp
 · intro k i hk
   by_cases h:i=j
   · rw [if_pos h]
     rcases rDQueue_row x k with ⟨h,E,sz,xs,e⟩ | ⟨h,_⟩
     · rw [e];exact onT_row
     · rw [h];exact onT_dead
   · rw [if_neg h];exact onT_dead
def cDRule (x:LRule) (j:Nat):List PV:=[.val (tx x.name),.own (DN 9 j)]
def rDRule (x:LRule) (k:Nat):MObj:=if k=9 then .row 9 1 (x.words.map tx) else .dead
theorem rDRule_row (x:LRule) (k:Nat):((k=9)∧∃ E sz xs,rDRule x k=.row E sz xs)∨rDRule x k=.dead∧¬ (k=9):=by
 by_cases h:k=9
 · refine .inl ⟨h,?_⟩
   unfold rDRule
   subst h;simp
 · refine .inr ⟨?_,h⟩
   unfold rDRule
   skip
   simp [h]
theorem cDRule_on (x:LRule) (j:Nat) {S:Nat→Bool} (h:∀ k,(k=9)→S (DN k j)=true):(PV.agg (cDRule x j)).onT S:=by
 refine onT_aggs fun p hp=>?_
 simp only [cDRule,List.mem_cons,List.not_mem_nil,or_false] at hp
 rcases hp with rfl | rfl
 · exact onT_val
 · exact onT_own (h _ (by simp))
theorem d_toRule (x:LRule) (j:Nat) (hx:bdRule 1048576 x):CallMem Tryz.prog 119 [.val (rvRule x)] (fun _=>.dead) (fun _=>false) (.agg (cDRule x j)) (dyn fun k i=>if i=j then rDRule x k else .dead):=by
 refine callM_ok mixed ok119 (fun i h=>by cases h) (fun i h=>by cases h) ?_
 unfold ir119
 rw [evalC_intro]
 unfold bdRule at hx
 obtain ⟨b0,b1⟩:=hx
 simp [rvRule,tx,num]
 refine callN (rs:=[.list 1 (x.words.map tx)]) (fun k' i'=>k' == 9 && i' == j) rfl (d_toStringS x.words 9 j (by omega) b1) ?_ ?_ ?_
 · intro k i hk hl
   by_cases h:k=9∧i=j
   · rw [if_pos h]
     exact ⟨by simp [h],onT_row,fun cs h=>by cases h⟩
   · rw [if_neg h] at hl;cases hl
 · exact onT_own (by simp)
 simp [rvRule,tx,num]
 refine finM_D _ ?_ ?_ ?_ ?_
 · simp [cDRule,rDRule,rvRule,tx,num,resP,resV]
 · intro k i hk hl
   by_cases h:i=j
   · subst h
     rw [if_pos rfl] at hl ⊢
     rcases rDRule_row x k with ⟨h,E,sz,xs,e⟩ | ⟨h,_⟩
     · subst h<;>simp [cDRule,rDRule]
     · rw [h] at hl;cases hl
   · rw [if_neg h] at hl;cases hl
 · exact cDRule_on x j fun k _=>by simp
 · intro k i hk
   by_cases h:i=j
   · rw [if_pos h]
     rcases rDRule_row x k with ⟨h,E,sz,xs,e⟩ | ⟨h,_⟩
     · rw [e];exact onT_row
     · rw [h];exact onT_dead
   · rw [if_neg h];exact onT_dead
def cDWire (x:LWire) (j:Nat):List PV:=[.val (num x.at_),.val (num x.status),.val (tx x.group),.val (tx x.url),.own (DN 10 j),.val (tx x.body),.val (.bool x.lost)]
def rDWire (x:LWire) (k:Nat):MObj:=if k=10 then .row 3 1 (x.ids.map num) else .dead
theorem rDWire_row (x:LWire) (k:Nat):((k=10)∧∃ E sz xs,rDWire x k=.row E sz xs)∨rDWire x k=.dead∧¬ (k=10):=by
 by_cases h:k=10
 · refine .inl ⟨h,?_⟩
   unfold rDWire
   subst h;simp
 · refine .inr ⟨?_,h⟩
   unfold rDWire
   skip
   simp [h]
theorem cDWire_on (x:LWire) (j:Nat) {S:Nat→Bool} (h:∀ k,(k=10)→S (DN k j)=true):(PV.agg (cDWire x j)).onT S:=by
 refine onT_aggs fun p hp=>?_
 simp only [cDWire,List.mem_cons,List.not_mem_nil,or_false] at hp
 rcases hp with rfl | rfl | rfl | rfl | rfl | rfl | rfl
 · exact onT_val
 · exact onT_val
 · exact onT_val
 · exact onT_val
 · exact onT_own (h _ (by simp))
 · exact onT_val
 · exact onT_val
theorem d_toWire (x:LWire) (j:Nat) (hx:bdWire 1048576 x):CallMem Tryz.prog 79 [.val (rvWire x)] (fun _=>.dead) (fun _=>false) (.agg (cDWire x j)) (dyn fun k i=>if i=j then rDWire x k else .dead):=by
 refine callM_ok mixed ok79 (fun i h=>by cases h) (fun i h=>by cases h) ?_
 unfold ir79
 rw [evalC_intro]
 unfold bdWire at hx
 obtain ⟨b0,b1,b2,b3⟩:=hx
 simp [rvWire,tx,num]
 refine callN (rs:=[.list 1 (x.ids.map num)]) (fun k' i'=>k' == 10 && i' == j) rfl (d_toIntS x.ids 10 j (by omega) b2) ?_ ?_ ?_
 · intro k i hk hl
   by_cases h:k=10∧i=j
   · rw [if_pos h]
     exact ⟨by simp [h],onT_row,fun cs h=>by cases h⟩
   · rw [if_neg h] at hl;cases hl
 · exact onT_own (by simp)
 simp [rvWire,tx,num]
 refine finM_D _ ?_ ?_ ?_ ?_
 · simp [cDWire,rDWire,rvWire,tx,num,resP,resV]
 · intro k i hk hl
   by_cases h:i=j
   · subst h
     rw [if_pos rfl] at hl ⊢
     rcases rDWire_row x k with ⟨h,E,sz,xs,e⟩ | ⟨h,_⟩
     · subst h<;>simp [cDWire,rDWire]
     · rw [h] at hl;cases hl
   · rw [if_neg h] at hl;cases hl
 · exact cDWire_on x j fun k _=>by simp
 · intro k i hk
   by_cases h:i=j
   · rw [if_pos h]
     rcases rDWire_row x k with ⟨h,E,sz,xs,e⟩ | ⟨h,_⟩
     · rw [e];exact onT_row
     · rw [h];exact onT_dead
   · rw [if_neg h];exact onT_dead
def cDChannel (x:LChannel) (j:Nat):List PV:=[.val (tx x.group.name),.val (num x.group.age),.own (DN 5 j),.own (DN 6 j),.own (DN 7 j),.own (DN 8 j)]
def rDChannel (x:LChannel) (k:Nat):MObj:=if k=5 then .row 162 3 (x.group.targets.map rvTarget) else if k=6 then .row 164 6 (x.peers.map rvPeer) else if k=7 then .row 146 4 (x.queue.items.map rvReport) else if k=8 then .row 9 1 (x.queue.recent.map tx) else .dead
theorem rDChannel_row (x:LChannel) (k:Nat):((k=5∨k=6∨k=7∨k=8)∧∃ E sz xs,rDChannel x k=.row E sz xs)∨rDChannel x k=.dead∧¬ (k=5∨k=6∨k=7∨k=8):=by
 by_cases h:k=5∨k=6∨k=7∨k=8
 · refine .inl ⟨h,?_⟩
   unfold rDChannel
   rcases h with rfl | rfl | rfl | rfl<;>simp
 · refine .inr ⟨?_,h⟩
   unfold rDChannel
   simp only [not_or] at h
   simp [h]
theorem cDChannel_on (x:LChannel) (j:Nat) {S:Nat→Bool} (h:∀ k,(k=5∨k=6∨k=7∨k=8)→S (DN k j)=true):(PV.agg (cDChannel x j)).onT S:=by
 refine onT_aggs fun p hp=>?_
 simp only [cDChannel,List.mem_cons,List.not_mem_nil,or_false] at hp
 rcases hp with rfl | rfl | rfl | rfl | rfl | rfl
 · exact onT_val
 · exact onT_val
 · exact onT_own (h _ (by simp))
 · exact onT_own (h _ (by simp))
 · exact onT_own (h _ (by simp))
 · exact onT_own (h _ (by simp))
theorem d_toChannel (x:LChannel) (j:Nat) (hx:bdChannel 1048576 x):CallMem Tryz.prog 75 [.val (rvChannel x)] (fun _=>.dead) (fun _=>false) (.agg (cDChannel x j)) (dyn fun k i=>if i=j then rDChannel x k else .dead):=by
 refine callM_ok mixed ok75 (fun i h=>by cases h) (fun i h=>by cases h) ?_
 unfold ir75
 rw [evalC_intro]
 unfold bdChannel at hx
 obtain ⟨b0,b1,b2⟩:=hx
 simp [rvGroup,rvQueue,rvChannel,tx,num]
 refine callN (rs:=[rvGroup x.group]) (fun k' i'=>(k' == 5) && i' == j) rfl (d_toGroup x.group j b0) ?_ ?_ ?_
 · intro k' i' hk hl
   by_cases h:i'=j
   · subst h
     rw [if_pos rfl] at hl ⊢
     rcases rDGroup_row x.group k' with ⟨h,E,sz,xs,e⟩ | ⟨h,_⟩
     · rw [e];exact ⟨by subst h;simp,onT_row,fun cs h=>by cases h⟩
     · rw [h] at hl;cases hl
   · rw [if_neg h] at hl;cases hl
 · refine cDGroup_on x.group j fun k hk=>?_
   subst hk;simp
 simp [rvGroup,rvQueue,rvChannel,cDGroup,rDGroup,cDQueue,rDQueue,tx,num]
 refine callN (rs:=[.list 6 (x.peers.map rvPeer)]) (fun k' i'=>k' == 6 && i' == j) rfl (d_toPeerS x.peers 6 j (by omega) b1) ?_ ?_ ?_
 · intro k i hk hl
   by_cases h:k=6∧i=j
   · rw [if_pos h]
     exact ⟨by simp [h],onT_row,fun cs h=>by cases h⟩
   · rw [if_neg h] at hl;cases hl
 · exact onT_own (by simp)
 simp [rvGroup,rvQueue,rvChannel,cDGroup,rDGroup,cDQueue,rDQueue,tx,num]
 refine callN (rs:=[rvQueue x.queue]) (fun k' i'=>(k' == 7 || k' == 8) && i' == j) rfl (d_toQueue x.queue j b2) ?_ ?_ ?_
 · intro k' i' hk hl
   by_cases h:i'=j
   · subst h
     rw [if_pos rfl] at hl ⊢
     rcases rDQueue_row x.queue k' with ⟨h,E,sz,xs,e⟩ | ⟨h,_⟩
     · rw [e];exact ⟨by rcases h with rfl | rfl<;>simp,onT_row,fun cs h=>by cases h⟩
     · rw [h] at hl;cases hl
   · rw [if_neg h] at hl;cases hl
 · refine cDQueue_on x.queue j fun k hk=>?_
   rcases hk with rfl | rfl<;>simp
 simp [rvGroup,rvQueue,rvChannel,cDGroup,rDGroup,cDQueue,rDQueue,tx,num]
 refine finM_D _ ?_ ?_ ?_ ?_
 · simp [cDGroup,rDGroup,cDQueue,rDQueue,cDChannel,rDChannel,rvGroup,rvQueue,rvChannel,tx,num,resP,resV]
 · intro k i hk hl
   by_cases h:i=j
   · subst h
     rw [if_pos rfl] at hl ⊢
     rcases rDChannel_row x k with ⟨h,E,sz,xs,e⟩ | ⟨h,_⟩
     · rcases h with rfl | rfl | rfl | rfl<;>simp [cDGroup,rDGroup,cDQueue,rDQueue,cDChannel,rDChannel]
     · rw [h] at hl;cases hl
   · rw [if_neg h] at hl;cases hl
 · exact cDChannel_on x j fun k _=>by simp
 · intro k i hk
   by_cases h:i=j
   · rw [if_pos h]
     rcases rDChannel_row x k with ⟨h,E,sz,xs,e⟩ | ⟨h,_⟩
     · rw [e];exact onT_row
     · rw [h];exact onT_dead
   · rw [if_neg h];exact onT_dead
def ocDChannel (l:List LChannel) (j k:Nat):PV:=match l[j]? with
 | some x=>(cDChannel x j).getD k .undef
 | none=>.undef
def oDChannel (l:List LChannel):MObj:=.prow 120 6 l.length (ocDChannel l)
def fDChannel (l:List LChannel) (k j:Nat):MObj:=match l[j]? with
 | some x=>rDChannel x k
 | none=>.dead
theorem cDChannel_at (x:LChannel) (j k:Nat):(∃ r,(cDChannel x j).getD k .undef=.val r)∨(cDChannel x j).getD k .undef=.undef∨(∃ k',(k'=5∨k'=6∨k'=7∨k'=8)∧(cDChannel x j).getD k .undef=.own (DN k' j)):=by
 unfold cDChannel
 by_cases h:k < 6
 · have:k=0∨k=1∨k=2∨k=3∨k=4∨k=5:=by omega
   rcases this with rfl | rfl | rfl | rfl | rfl | rfl<;>simp
 · rw [List.getD_eq_getElem?_getD,List.getElem?_eq_none (by simp;omega)]
   exact .inr (.inl rfl)
theorem ocDChannel_at (l:List LChannel) (j k:Nat):(∃ r,ocDChannel l j k=.val r)∨ocDChannel l j k=.undef∨(∃ k',(k'=5∨k'=6∨k'=7∨k'=8)∧ocDChannel l j k=.own (DN k' j)):=by
 unfold ocDChannel
 cases l[j]? with
 | none=>exact .inr (.inl rfl)
 | some x=>exact cDChannel_at x j k
theorem ocDChannel_kill (l:List LChannel) (j k:Nat) (d:Nat→Bool) (h:∀ k',(k'=5∨k'=6∨k'=7∨k'=8)→d (DN k' j)=false):(ocDChannel l j k).kill d=ocDChannel l j k:=by
 rcases ocDChannel_at l j k with ⟨r,e⟩ | e | ⟨k',hk,e⟩<;>rw [e]<;>simp only [PV.kill]
 rw [h k' hk];rfl
theorem fDChannel_row (l:List LChannel) (k j:Nat):((k=5∨k=6∨k=7∨k=8)∧j < l.length∧∃ E sz xs,fDChannel l k j=.row E sz xs)∨fDChannel l k j=.dead:=by
 unfold fDChannel
 by_cases h:j < l.length
 · rw [List.getElem?_eq_getElem h]
   rcases rDChannel_row l[j] k with ⟨h',e⟩ | ⟨h,_⟩
   · exact .inl ⟨h',h,e⟩
   · exact .inr h
 · rw [List.getElem?_eq_none (by omega)];exact .inr rfl
theorem fDChannel_kill (l:List LChannel) (k j:Nat) (d:Nat→Bool):(fDChannel l k j).kill d=fDChannel l k j:=by
 rcases fDChannel_row l k j with ⟨_,_,E,sz,xs,e⟩ | e<;>rw [e]<;>rfl
theorem oDChannel_on (l:List LChannel) {S:Nat→Bool} (h:∀ k j,(k=5∨k=6∨k=7∨k=8)→S (DN k j)=true):(oDChannel l).onT S:=by
 refine onT_prow fun j k=>?_
 rcases ocDChannel_at l j k with ⟨r,e⟩ | e | ⟨k',hk,e⟩
 · exact .inl ⟨r,e⟩
 · exact .inr (.inl e)
 · exact .inr (.inr (.inr ⟨_,e,h k' j hk⟩))
def mDChannel (l:List LChannel) (k i:Nat):MObj:=if k=0∧i=0 then oDChannel l else fDChannel l k i
theorem mDChannel_ok (l:List LChannel) (k i:Nat) {S:Nat→Bool} (hS:∀ k j,(k=5∨k=6∨k=7∨k=8)→S (DN k j)=true) (h:(mDChannel l k i).live=true):((k == 5 || k == 6 || k == 7 || k == 8) || (k == 0 && i == 0))=true∧(mDChannel l k i).onT S∧∀ cs,mDChannel l k i≠.box cs:=by
 unfold mDChannel at h ⊢
 by_cases h0:k=0∧i=0
 · rw [if_pos h0]
   exact ⟨by simp [h0],oDChannel_on l hS,fun cs h=>by cases h⟩
 · rw [if_neg h0] at h ⊢
   rcases fDChannel_row l k i with ⟨h',_,E,sz,xs,e⟩ | e
   · rw [e]
     refine ⟨?_,onT_row,fun cs h=>by cases h⟩
     rcases h' with rfl | rfl | rfl | rfl<;>simp
   · rw [e] at h;cases h
theorem mDChannel_on (l:List LChannel) (k i:Nat) {S:Nat→Bool} (hS:∀ k j,(k=5∨k=6∨k=7∨k=8)→S (DN k j)=true):(mDChannel l k i).onT S:=by
 cases hl:(mDChannel l k i).live with
 | true=>exact (mDChannel_ok l k i hS hl).2.1
 | false=>cases hm:mDChannel l k i<;>rw [hm] at hl<;>first | exact onT_dead | cases hl
theorem mDChannel_kill (l:List LChannel) (k i:Nat) (d:Nat→Bool) (h:∀ k j,(k=5∨k=6∨k=7∨k=8)→d (DN k j)=false):(mDChannel l k i).kill d=mDChannel l k i:=
 (mDChannel_on l k i (S:=fun x=>!d x) fun k j hk=>by simp [h k j hk]).2 d fun x hx=>by simpa using hx
theorem d_toChannelS (l:List LChannel) (hx:bdS 1048576 (bdChannel 1048576) l):CallMem Tryz.prog 37 [.val (.list 6 (l.map rvChannel))] (fun _=>.dead) (fun _=>false) (.own (DN 0 0)) (dyn (mDChannel l)):=by
 refine callM_ok mixed okp37 (fun i h=>by cases h) (fun i h=>by cases h) ?_
 unfold irp37
 rw [evalC_intro]
 have hl:l.length≤1048576:=hx.1
 simp [num,vals?]
 refine ⟨by omega,by omega,?_⟩
 refine loop_EC (X:=Nat) (fun i=>⟨envOf [(0,.val (.list 6 (l.map rvChannel))),(3,.own 7),(4,.val (num i))],memD [(7,.prow 120 6 l.length fun j k=>if j < i then ocDChannel l j k else .undef)] (fun k j=>if j < i then fDChannel l k j else .dead)⟩) (fun i=>i≤l.length) (fun i=>l.length - i) 0 (Le.mkDN _ _ _ ?_ ?_ ?_) (Nat.zero_le _) ?_
 · simp [upd,num,PV.kill]
 · intro kp hkp
   rw [List.mem_singleton.1 hkp]
   simp [upd]
   refine .rowp _ _ _ _ _ (by simp) fun j k hj hk=>?_
   exact .undef _
 · intro k j hk
   simp
   exact .dead _
 · intro i hi
   simp [num,memD_cons,memD_nil]
   refine iteP_intro (fun h1=>?_) (fun h1=>?_)
   · obtain ⟨x,hxe⟩:∃ x,l[i]=x:=⟨_,rfl⟩
     have he:l[i]?=some x:=by rw [List.getElem?_eq_getElem h1,hxe]
     have hbx:bdChannel 1048576 x:=by rw [← hxe];exact hx.2 _ (List.getElem_mem h1)
     simp [num,h1,he,hxe,memD_cons,memD_nil,rvChannel]
     refine callN (rs:=[rvChannel x]) (fun k' i'=>(k' == 5 || k' == 6 || k' == 7 || k' == 8) && i' == i) rfl (d_toChannel x i hbx) ?_ ?_ ?_
     · intro k' i' hk hl
       by_cases h:i'=i
       · subst h
         rw [if_pos rfl] at hl ⊢
         rcases rDChannel_row x k' with ⟨h,E,sz,xs,e⟩ | ⟨h,_⟩
         · rw [e];exact ⟨by rcases h with rfl | rfl | rfl | rfl<;>simp,onT_row,fun cs h=>by cases h⟩
         · rw [h] at hl;cases hl
       · rw [if_neg h] at hl;cases hl
     · refine cDChannel_on x i fun k h=>?_
       rcases h with rfl | rfl | rfl | rfl<;>simp
     simp [num,tx,h1,he,memD_cons,memD_nil,cDChannel,rDChannel]
     refine LoopNext.mk (i+1) h1 (by omega) (Le.mkDN _ _ _ ?_ ?_ ?_)
     · simp [num]
       exact wrap_i64 (by omega) (by omega)
     · intro kp hkp
       rw [List.mem_singleton.1 hkp]
       simp [memD_cons,memD_nil]
       refine .prow _ _ _ _ _ fun j k hj hk=>?_
       by_cases hji:j=i
       · subst hji
         have e:ocDChannel l j k=(cDChannel x j).getD k .undef:=by unfold ocDChannel;rw [he]
         rw [if_pos ⟨rfl,hk⟩,if_pos (by omega),e]
         exact .refl _
       · rw [if_neg (fun h=>hji h.1)]
         by_cases hj2:j < i
         · rw [if_pos hj2,if_pos (by omega),ocDChannel_kill]
           · exact .refl _
           · intro k h
             rcases h with rfl | rfl | rfl | rfl<;>simp [hji]
         · rw [if_neg (by omega),if_neg (by omega)];exact .undef _
     · intro k j hk
       by_cases hji:j=i
       · subst hji
         have e:fDChannel l k j=rDChannel x k:=by unfold fDChannel;rw [he]
         simp [hk,memD_cons,memD_nil]
         rw [e]
         rcases rDChannel_row x k with ⟨h,E,sz,xs,e⟩ | ⟨h,_⟩
         · rcases h with rfl | rfl | rfl | rfl<;>simp [rDChannel]<;>exact .refl _
         · rw [h];exact .dead _
       · simp [hk,memD_cons,memD_nil,hji]
         by_cases hj2:j < i
         · rw [if_pos hj2,if_pos (by omega),fDChannel_kill];exact .refl _
         · rw [if_neg (by omega),if_neg (by omega)];exact .dead _
   · have e:i=l.length:=by omega
     subst e
     simp [num,memD_cons,memD_nil]
     refine finM_G [(DN 0 0,7,oDChannel l)] (fun k j=>fDChannel l k j) ?_ ?_ ?_ ?_ ?_ ?_
     · intro k j hk
       simp [memL,mDChannel,hk]
     · simp [ioL,PV.ren,resP,resV]
     · intro e he
       rw [List.mem_singleton.1 he]
       refine ⟨by simp,by simp,?_⟩
       have:(oDChannel l).ren (ioL [(DN 0 0,7,oDChannel l)])=oDChannel l:=(oDChannel_on l (S:=TD (fun k i=>(k == 5 || k == 6 || k == 7 || k == 8))) fun k j h=>by rcases h with rfl | rfl | rfl | rfl<;>simp).1 _ fun x hx=>by
        refine ioL_off fun e he=>?_
        rw [List.mem_singleton.1 he]
        rintro rfl
        simp at hx
       rw [this]
       simp [memD_cons,memD_nil,oDChannel]
       funext j k
       by_cases hj:j < l.length
       · rw [if_pos hj]
       · rw [if_neg hj];unfold ocDChannel;rw [List.getElem?_eq_none (by omega)]
     · simp
     · intro e he
       rw [List.mem_singleton.1 he];simp
     · intro k j hk hl _
       rcases fDChannel_row l k j with ⟨_,hj,E,sz,xs,e⟩ | e
       · simp [memD_cons,memD_nil,hk,hj]
         rw [e];rfl
       · rw [e] at hl;cases hl
def ocDRule (l:List LRule) (j k:Nat):PV:=match l[j]? with
 | some x=>(cDRule x j).getD k .undef
 | none=>.undef
def oDRule (l:List LRule):MObj:=.prow 154 2 l.length (ocDRule l)
def fDRule (l:List LRule) (k j:Nat):MObj:=match l[j]? with
 | some x=>rDRule x k
 | none=>.dead
theorem cDRule_at (x:LRule) (j k:Nat):(∃ r,(cDRule x j).getD k .undef=.val r)∨(cDRule x j).getD k .undef=.undef∨(∃ k',(k'=9)∧(cDRule x j).getD k .undef=.own (DN k' j)):=by
 unfold cDRule
 by_cases h:k < 2
 · have:k=0∨k=1:=by omega
   rcases this with rfl | rfl<;>simp
 · rw [List.getD_eq_getElem?_getD,List.getElem?_eq_none (by simp;omega)]
   exact .inr (.inl rfl)
theorem ocDRule_at (l:List LRule) (j k:Nat):(∃ r,ocDRule l j k=.val r)∨ocDRule l j k=.undef∨(∃ k',(k'=9)∧ocDRule l j k=.own (DN k' j)):=by
 unfold ocDRule
 cases l[j]? with
 | none=>exact .inr (.inl rfl)
 | some x=>exact cDRule_at x j k
theorem ocDRule_kill (l:List LRule) (j k:Nat) (d:Nat→Bool) (h:∀ k',(k'=9)→d (DN k' j)=false):(ocDRule l j k).kill d=ocDRule l j k:=by
 rcases ocDRule_at l j k with ⟨r,e⟩ | e | ⟨k',hk,e⟩<;>rw [e]<;>simp only [PV.kill]
 rw [h k' hk];rfl
theorem fDRule_row (l:List LRule) (k j:Nat):((k=9)∧j < l.length∧∃ E sz xs,fDRule l k j=.row E sz xs)∨fDRule l k j=.dead:=by
 unfold fDRule
 by_cases h:j < l.length
 · rw [List.getElem?_eq_getElem h]
   rcases rDRule_row l[j] k with ⟨h',e⟩ | ⟨h,_⟩
   · exact .inl ⟨h',h,e⟩
   · exact .inr h
 · rw [List.getElem?_eq_none (by omega)];exact .inr rfl
theorem fDRule_kill (l:List LRule) (k j:Nat) (d:Nat→Bool):(fDRule l k j).kill d=fDRule l k j:=by
 rcases fDRule_row l k j with ⟨_,_,E,sz,xs,e⟩ | e<;>rw [e]<;>rfl
theorem oDRule_on (l:List LRule) {S:Nat→Bool} (h:∀ k j,(k=9)→S (DN k j)=true):(oDRule l).onT S:=by
 refine onT_prow fun j k=>?_
 rcases ocDRule_at l j k with ⟨r,e⟩ | e | ⟨k',hk,e⟩
 · exact .inl ⟨r,e⟩
 · exact .inr (.inl e)
 · exact .inr (.inr (.inr ⟨_,e,h k' j hk⟩))
def mDRule (l:List LRule) (k i:Nat):MObj:=if k=2∧i=0 then oDRule l else fDRule l k i
theorem mDRule_ok (l:List LRule) (k i:Nat) {S:Nat→Bool} (hS:∀ k j,(k=9)→S (DN k j)=true) (h:(mDRule l k i).live=true):((k == 9) || (k == 2 && i == 0))=true∧(mDRule l k i).onT S∧∀ cs,mDRule l k i≠.box cs:=by
 unfold mDRule at h ⊢
 by_cases h0:k=2∧i=0
 · rw [if_pos h0]
   exact ⟨by simp [h0],oDRule_on l hS,fun cs h=>by cases h⟩
 · rw [if_neg h0] at h ⊢
   rcases fDRule_row l k i with ⟨h',_,E,sz,xs,e⟩ | e
   · rw [e]
     refine ⟨?_,onT_row,fun cs h=>by cases h⟩
     subst h';simp
   · rw [e] at h;cases h
theorem mDRule_on (l:List LRule) (k i:Nat) {S:Nat→Bool} (hS:∀ k j,(k=9)→S (DN k j)=true):(mDRule l k i).onT S:=by
 cases hl:(mDRule l k i).live with
 | true=>exact (mDRule_ok l k i hS hl).2.1
 | false=>cases hm:mDRule l k i<;>rw [hm] at hl<;>first | exact onT_dead | cases hl
theorem mDRule_kill (l:List LRule) (k i:Nat) (d:Nat→Bool) (h:∀ k j,(k=9)→d (DN k j)=false):(mDRule l k i).kill d=mDRule l k i:=
 (mDRule_on l k i (S:=fun x=>!d x) fun k j hk=>by simp [h k j hk]).2 d fun x hx=>by simpa using hx
theorem d_toRuleS (l:List LRule) (hx:bdS 1048576 (bdRule 1048576) l):CallMem Tryz.prog 77 [.val (.list 2 (l.map rvRule))] (fun _=>.dead) (fun _=>false) (.own (DN 2 0)) (dyn (mDRule l)):=by
 refine callM_ok mixed okp77 (fun i h=>by cases h) (fun i h=>by cases h) ?_
 unfold irp77
 rw [evalC_intro]
 have hl:l.length≤1048576:=hx.1
 simp [num,vals?]
 refine ⟨by omega,by omega,?_⟩
 refine loop_EC (X:=Nat) (fun i=>⟨envOf [(0,.val (.list 2 (l.map rvRule))),(3,.own 7),(4,.val (num i))],memD [(7,.prow 154 2 l.length fun j k=>if j < i then ocDRule l j k else .undef)] (fun k j=>if j < i then fDRule l k j else .dead)⟩) (fun i=>i≤l.length) (fun i=>l.length - i) 0 (Le.mkDN _ _ _ ?_ ?_ ?_) (Nat.zero_le _) ?_
 · simp [upd,num,PV.kill]
 · intro kp hkp
   rw [List.mem_singleton.1 hkp]
   simp [upd]
   refine .rowp _ _ _ _ _ (by simp) fun j k hj hk=>?_
   exact .undef _
 · intro k j hk
   simp
   exact .dead _
 · intro i hi
   simp [num,memD_cons,memD_nil]
   refine iteP_intro (fun h1=>?_) (fun h1=>?_)
   · obtain ⟨x,hxe⟩:∃ x,l[i]=x:=⟨_,rfl⟩
     have he:l[i]?=some x:=by rw [List.getElem?_eq_getElem h1,hxe]
     have hbx:bdRule 1048576 x:=by rw [← hxe];exact hx.2 _ (List.getElem_mem h1)
     simp [num,h1,he,hxe,memD_cons,memD_nil,rvRule]
     refine callN (rs:=[rvRule x]) (fun k' i'=>(k' == 9) && i' == i) rfl (d_toRule x i hbx) ?_ ?_ ?_
     · intro k' i' hk hl
       by_cases h:i'=i
       · subst h
         rw [if_pos rfl] at hl ⊢
         rcases rDRule_row x k' with ⟨h,E,sz,xs,e⟩ | ⟨h,_⟩
         · rw [e];exact ⟨by subst h;simp,onT_row,fun cs h=>by cases h⟩
         · rw [h] at hl;cases hl
       · rw [if_neg h] at hl;cases hl
     · refine cDRule_on x i fun k h=>?_
       subst h;simp
     simp [num,tx,h1,he,memD_cons,memD_nil,cDRule,rDRule]
     refine LoopNext.mk (i+1) h1 (by omega) (Le.mkDN _ _ _ ?_ ?_ ?_)
     · simp [num]
       exact wrap_i64 (by omega) (by omega)
     · intro kp hkp
       rw [List.mem_singleton.1 hkp]
       simp [memD_cons,memD_nil]
       refine .prow _ _ _ _ _ fun j k hj hk=>?_
       by_cases hji:j=i
       · subst hji
         have e:ocDRule l j k=(cDRule x j).getD k .undef:=by unfold ocDRule;rw [he]
         rw [if_pos ⟨rfl,hk⟩,if_pos (by omega),e]
         exact .refl _
       · rw [if_neg (fun h=>hji h.1)]
         by_cases hj2:j < i
         · rw [if_pos hj2,if_pos (by omega),ocDRule_kill]
           · exact .refl _
           · intro k h
             subst h;simp [hji]
         · rw [if_neg (by omega),if_neg (by omega)];exact .undef _
     · intro k j hk
       by_cases hji:j=i
       · subst hji
         have e:fDRule l k j=rDRule x k:=by unfold fDRule;rw [he]
         simp [hk,memD_cons,memD_nil]
         rw [e]
         rcases rDRule_row x k with ⟨h,E,sz,xs,e⟩ | ⟨h,_⟩
         · subst h;simp [rDRule]<;>exact .refl _
         · rw [h];exact .dead _
       · simp [hk,memD_cons,memD_nil,hji]
         by_cases hj2:j < i
         · rw [if_pos hj2,if_pos (by omega),fDRule_kill];exact .refl _
         · rw [if_neg (by omega),if_neg (by omega)];exact .dead _
   · have e:i=l.length:=by omega
     subst e
     simp [num,memD_cons,memD_nil]
     refine finM_G [(DN 2 0,7,oDRule l)] (fun k j=>fDRule l k j) ?_ ?_ ?_ ?_ ?_ ?_
     · intro k j hk
       simp [memL,mDRule,hk]
     · simp [ioL,PV.ren,resP,resV]
     · intro e he
       rw [List.mem_singleton.1 he]
       refine ⟨by simp,by simp,?_⟩
       have:(oDRule l).ren (ioL [(DN 2 0,7,oDRule l)])=oDRule l:=(oDRule_on l (S:=TD (fun k i=>(k == 9))) fun k j h=>by subst h;simp).1 _ fun x hx=>by
        refine ioL_off fun e he=>?_
        rw [List.mem_singleton.1 he]
        rintro rfl
        simp at hx
       rw [this]
       simp [memD_cons,memD_nil,oDRule]
       funext j k
       by_cases hj:j < l.length
       · rw [if_pos hj]
       · rw [if_neg hj];unfold ocDRule;rw [List.getElem?_eq_none (by omega)]
     · simp
     · intro e he
       rw [List.mem_singleton.1 he];simp
     · intro k j hk hl _
       rcases fDRule_row l k j with ⟨_,hj,E,sz,xs,e⟩ | e
       · simp [memD_cons,memD_nil,hk,hj]
         rw [e];rfl
       · rw [e] at hl;cases hl
def ocDWire (l:List LWire) (j k:Nat):PV:=match l[j]? with
 | some x=>(cDWire x j).getD k .undef
 | none=>.undef
def oDWire (l:List LWire):MObj:=.prow 77 7 l.length (ocDWire l)
def fDWire (l:List LWire) (k j:Nat):MObj:=match l[j]? with
 | some x=>rDWire x k
 | none=>.dead
theorem cDWire_at (x:LWire) (j k:Nat):(∃ r,(cDWire x j).getD k .undef=.val r)∨(cDWire x j).getD k .undef=.undef∨(∃ k',(k'=10)∧(cDWire x j).getD k .undef=.own (DN k' j)):=by
 unfold cDWire
 by_cases h:k < 7
 · have:k=0∨k=1∨k=2∨k=3∨k=4∨k=5∨k=6:=by omega
   rcases this with rfl | rfl | rfl | rfl | rfl | rfl | rfl<;>simp
 · rw [List.getD_eq_getElem?_getD,List.getElem?_eq_none (by simp;omega)]
   exact .inr (.inl rfl)
theorem ocDWire_at (l:List LWire) (j k:Nat):(∃ r,ocDWire l j k=.val r)∨ocDWire l j k=.undef∨(∃ k',(k'=10)∧ocDWire l j k=.own (DN k' j)):=by
 unfold ocDWire
 cases l[j]? with
 | none=>exact .inr (.inl rfl)
 | some x=>exact cDWire_at x j k
theorem ocDWire_kill (l:List LWire) (j k:Nat) (d:Nat→Bool) (h:∀ k',(k'=10)→d (DN k' j)=false):(ocDWire l j k).kill d=ocDWire l j k:=by
 rcases ocDWire_at l j k with ⟨r,e⟩ | e | ⟨k',hk,e⟩<;>rw [e]<;>simp only [PV.kill]
 rw [h k' hk];rfl
theorem fDWire_row (l:List LWire) (k j:Nat):((k=10)∧j < l.length∧∃ E sz xs,fDWire l k j=.row E sz xs)∨fDWire l k j=.dead:=by
 unfold fDWire
 by_cases h:j < l.length
 · rw [List.getElem?_eq_getElem h]
   rcases rDWire_row l[j] k with ⟨h',e⟩ | ⟨h,_⟩
   · exact .inl ⟨h',h,e⟩
   · exact .inr h
 · rw [List.getElem?_eq_none (by omega)];exact .inr rfl
theorem fDWire_kill (l:List LWire) (k j:Nat) (d:Nat→Bool):(fDWire l k j).kill d=fDWire l k j:=by
 rcases fDWire_row l k j with ⟨_,_,E,sz,xs,e⟩ | e<;>rw [e]<;>rfl
theorem oDWire_on (l:List LWire) {S:Nat→Bool} (h:∀ k j,(k=10)→S (DN k j)=true):(oDWire l).onT S:=by
 refine onT_prow fun j k=>?_
 rcases ocDWire_at l j k with ⟨r,e⟩ | e | ⟨k',hk,e⟩
 · exact .inl ⟨r,e⟩
 · exact .inr (.inl e)
 · exact .inr (.inr (.inr ⟨_,e,h k' j hk⟩))
def mDWire (l:List LWire) (k i:Nat):MObj:=if k=4∧i=0 then oDWire l else fDWire l k i
theorem mDWire_ok (l:List LWire) (k i:Nat) {S:Nat→Bool} (hS:∀ k j,(k=10)→S (DN k j)=true) (h:(mDWire l k i).live=true):((k == 10) || (k == 4 && i == 0))=true∧(mDWire l k i).onT S∧∀ cs,mDWire l k i≠.box cs:=by
 unfold mDWire at h ⊢
 by_cases h0:k=4∧i=0
 · rw [if_pos h0]
   exact ⟨by simp [h0],oDWire_on l hS,fun cs h=>by cases h⟩
 · rw [if_neg h0] at h ⊢
   rcases fDWire_row l k i with ⟨h',_,E,sz,xs,e⟩ | e
   · rw [e]
     refine ⟨?_,onT_row,fun cs h=>by cases h⟩
     subst h';simp
   · rw [e] at h;cases h
theorem mDWire_on (l:List LWire) (k i:Nat) {S:Nat→Bool} (hS:∀ k j,(k=10)→S (DN k j)=true):(mDWire l k i).onT S:=by
 cases hl:(mDWire l k i).live with
 | true=>exact (mDWire_ok l k i hS hl).2.1
 | false=>cases hm:mDWire l k i<;>rw [hm] at hl<;>first | exact onT_dead | cases hl
theorem mDWire_kill (l:List LWire) (k i:Nat) (d:Nat→Bool) (h:∀ k j,(k=10)→d (DN k j)=false):(mDWire l k i).kill d=mDWire l k i:=
 (mDWire_on l k i (S:=fun x=>!d x) fun k j hk=>by simp [h k j hk]).2 d fun x hx=>by simpa using hx
theorem d_toWireS (l:List LWire) (hx:bdS 1048576 (bdWire 1048576) l):CallMem Tryz.prog 40 [.val (.list 7 (l.map rvWire))] (fun _=>.dead) (fun _=>false) (.own (DN 4 0)) (dyn (mDWire l)):=by
 refine callM_ok mixed okp40 (fun i h=>by cases h) (fun i h=>by cases h) ?_
 unfold irp40
 rw [evalC_intro]
 have hl:l.length≤1048576:=hx.1
 simp [num,vals?]
 refine ⟨by omega,by omega,?_⟩
 refine loop_EC (X:=Nat) (fun i=>⟨envOf [(0,.val (.list 7 (l.map rvWire))),(3,.own 7),(4,.val (num i))],memD [(7,.prow 77 7 l.length fun j k=>if j < i then ocDWire l j k else .undef)] (fun k j=>if j < i then fDWire l k j else .dead)⟩) (fun i=>i≤l.length) (fun i=>l.length - i) 0 (Le.mkDN _ _ _ ?_ ?_ ?_) (Nat.zero_le _) ?_
 · simp [upd,num,PV.kill]
 · intro kp hkp
   rw [List.mem_singleton.1 hkp]
   simp [upd]
   refine .rowp _ _ _ _ _ (by simp) fun j k hj hk=>?_
   exact .undef _
 · intro k j hk
   simp
   exact .dead _
 · intro i hi
   simp [num,memD_cons,memD_nil]
   refine iteP_intro (fun h1=>?_) (fun h1=>?_)
   · obtain ⟨x,hxe⟩:∃ x,l[i]=x:=⟨_,rfl⟩
     have he:l[i]?=some x:=by rw [List.getElem?_eq_getElem h1,hxe]
     have hbx:bdWire 1048576 x:=by rw [← hxe];exact hx.2 _ (List.getElem_mem h1)
     simp [num,h1,he,hxe,memD_cons,memD_nil,rvWire]
     refine callN (rs:=[rvWire x]) (fun k' i'=>(k' == 10) && i' == i) rfl (d_toWire x i hbx) ?_ ?_ ?_
     · intro k' i' hk hl
       by_cases h:i'=i
       · subst h
         rw [if_pos rfl] at hl ⊢
         rcases rDWire_row x k' with ⟨h,E,sz,xs,e⟩ | ⟨h,_⟩
         · rw [e];exact ⟨by subst h;simp,onT_row,fun cs h=>by cases h⟩
         · rw [h] at hl;cases hl
       · rw [if_neg h] at hl;cases hl
     · refine cDWire_on x i fun k h=>?_
       subst h;simp
     simp [num,tx,h1,he,memD_cons,memD_nil,cDWire,rDWire]
     refine LoopNext.mk (i+1) h1 (by omega) (Le.mkDN _ _ _ ?_ ?_ ?_)
     · simp [num]
       exact wrap_i64 (by omega) (by omega)
     · intro kp hkp
       rw [List.mem_singleton.1 hkp]
       simp [memD_cons,memD_nil]
       refine .prow _ _ _ _ _ fun j k hj hk=>?_
       by_cases hji:j=i
       · subst hji
         have e:ocDWire l j k=(cDWire x j).getD k .undef:=by unfold ocDWire;rw [he]
         rw [if_pos ⟨rfl,hk⟩,if_pos (by omega),e]
         exact .refl _
       · rw [if_neg (fun h=>hji h.1)]
         by_cases hj2:j < i
         · rw [if_pos hj2,if_pos (by omega),ocDWire_kill]
           · exact .refl _
           · intro k h
             subst h;simp [hji]
         · rw [if_neg (by omega),if_neg (by omega)];exact .undef _
     · intro k j hk
       by_cases hji:j=i
       · subst hji
         have e:fDWire l k j=rDWire x k:=by unfold fDWire;rw [he]
         simp [hk,memD_cons,memD_nil]
         rw [e]
         rcases rDWire_row x k with ⟨h,E,sz,xs,e⟩ | ⟨h,_⟩
         · subst h;simp [rDWire]<;>exact .refl _
         · rw [h];exact .dead _
       · simp [hk,memD_cons,memD_nil,hji]
         by_cases hj2:j < i
         · rw [if_pos hj2,if_pos (by omega),fDWire_kill];exact .refl _
         · rw [if_neg (by omega),if_neg (by omega)];exact .dead _
   · have e:i=l.length:=by omega
     subst e
     simp [num,memD_cons,memD_nil]
     refine finM_G [(DN 4 0,7,oDWire l)] (fun k j=>fDWire l k j) ?_ ?_ ?_ ?_ ?_ ?_
     · intro k j hk
       simp [memL,mDWire,hk]
     · simp [ioL,PV.ren,resP,resV]
     · intro e he
       rw [List.mem_singleton.1 he]
       refine ⟨by simp,by simp,?_⟩
       have:(oDWire l).ren (ioL [(DN 4 0,7,oDWire l)])=oDWire l:=(oDWire_on l (S:=TD (fun k i=>(k == 10))) fun k j h=>by subst h;simp).1 _ fun x hx=>by
        refine ioL_off fun e he=>?_
        rw [List.mem_singleton.1 he]
        rintro rfl
        simp at hx
       rw [this]
       simp [memD_cons,memD_nil,oDWire]
       funext j k
       by_cases hj:j < l.length
       · rw [if_pos hj]
       · rw [if_neg hj];unfold ocDWire;rw [List.getElem?_eq_none (by omega)]
     · simp
     · intro e he
       rw [List.mem_singleton.1 he];simp
     · intro k j hk hl _
       rcases fDWire_row l k j with ⟨_,hj,E,sz,xs,e⟩ | e
       · simp [memD_cons,memD_nil,hk,hj]
         rw [e];rfl
       · rw [e] at hl;cases hl
end Go.Proofs
end
section
namespace Go.Proofs
open Go.PW Go.KP
attribute [local simp] RV.cells RV.one PV.cells PV.solid PV.one vals? allVal mkAgg setAt RV.ofCells elems PV.killL
variable [GF]
attribute [local simp] TD_DN TD_lo nK_lo nK_DN nM_lo nM_DN dyn_DN dyn_lo isD_lo DN_lo DN_lo' DN_inj DN_isD
def cDPolicy (p:LPolicy):List PV:=[.val (tx p.reportTo),.own (DN 1 0),.own (DN 2 0)]
def mDPolicy (p:LPolicy) (k i:Nat):MObj:=if k=1∧i=0 then .row 9 1 (p.uris.map tx) else mDRule p.rules k i
theorem mDPolicy_ok (p:LPolicy) (k i:Nat) {S:Nat→Bool} (hS:∀ k j,(k=9)→S (DN k j)=true) (h:(mDPolicy p k i).live=true):(k == 1 && i == 0 || k == 9 || k == 2 && i == 0)=true∧(mDPolicy p k i).onT S∧∀ cs,mDPolicy p k i≠.box cs:=by
 unfold mDPolicy at h ⊢
 by_cases h0:k=1∧i=0
 · rw [if_pos h0]
   exact ⟨by simp [h0],onT_row,fun cs h=>by cases h⟩
 · rw [if_neg h0] at h ⊢
   obtain ⟨h1,h2,h3⟩:=mDRule_ok p.rules k i hS h
   refine ⟨?_,h2,h3⟩
   simp only [Bool.or_eq_true] at h1 ⊢
   rcases h1 with h1 | h1
   · exact .inl (.inr h1)
   · exact .inr h1
theorem mDPolicy_on (p:LPolicy) (k i:Nat) {S:Nat→Bool} (hS:∀ k j,(k=9)→S (DN k j)=true):(mDPolicy p k i).onT S:=by
 cases hl:(mDPolicy p k i).live with
 | true=>exact (mDPolicy_ok p k i hS hl).2.1
 | false=>cases hm:mDPolicy p k i<;>rw [hm] at hl<;>first | exact onT_dead | cases hl
theorem mDPolicy_kill (p:LPolicy) (k i:Nat) (d:Nat→Bool) (h:∀ k j,(k=9)→d (DN k j)=false):(mDPolicy p k i).kill d=mDPolicy p k i:=
 (mDPolicy_on p k i (S:=fun x=>!d x) fun k j hk=>by simp [h k j hk]).2 d fun x hx=>by simpa using hx
theorem d_toPolicy (p:LPolicy) (hx:bdPolicy 1048576 p):CallMem Tryz.prog 38 [.val (rvPolicy p)] (fun _=>.dead) (fun _=>false) (.agg (cDPolicy p)) (dyn (mDPolicy p)):=by
 refine callM_ok mixed ok38 (fun i h=>by cases h) (fun i h=>by cases h) ?_
 unfold ir38
 rw [evalC_intro]
 obtain ⟨b0,b1,b2⟩:=hx
 simp [rvPolicy,tx,num]
 refine callN (rs:=[.list 1 (p.uris.map tx)]) (fun k i=>k == 1 && i == 0) rfl (d_toStringS p.uris 1 0 (by omega) b1) ?_ ?_ ?_
 · intro k i hk hl
   by_cases h:k=1∧i=0
   · rw [if_pos h]
     exact ⟨by simp [h],onT_row,fun cs h=>by cases h⟩
   · rw [if_neg h] at hl;cases hl
 · exact onT_own (by simp)
 simp [rvPolicy,tx,num]
 refine callN (rs:=[.list 2 (p.rules.map rvRule)]) (fun k i=>k == 9 || k == 2 && i == 0) rfl (d_toRuleS p.rules b2) (fun k i hk hl=>mDRule_ok p.rules k i (fun k j h=>by subst h;simp) hl) (onT_own (by simp)) ?_
 simp [rvPolicy,tx,num,mDRule,oDRule]
 refine finM_D _ ?_ ?_ ?_ ?_
 · simp [cDPolicy,tx,num,resP,resV]
 · intro k i hk hl
   by_cases h1:k=1∧i=0
   · obtain ⟨rfl,rfl⟩:=h1;simp [mDPolicy]
   · have e:mDPolicy p k i=mDRule p.rules k i:=by unfold mDPolicy;rw [if_neg h1]
     rw [e] at hl ⊢
     have h2:=(mDRule_ok p.rules k i (S:=fun _=>true) (fun _ _ _=>rfl) hl).1
     simp at h2
     simp [hk,h2]
     try simp [mDRule,oDRule]
 · exact onT_aggs fun q hq=>by
    simp only [cDPolicy,List.mem_cons,List.not_mem_nil,or_false] at hq
    rcases hq with rfl | rfl | rfl
    · exact onT_val
    · exact onT_own (by simp)
    · exact onT_own (by simp)
 · intro k i hk
   exact mDPolicy_on p k i fun k j h=>by simp
def cDPipe (p:LPipe):List PV:=[.own (DN 0 0),.val (tx p.policy.reportTo),.own (DN 1 0),.own (DN 2 0),.val (num p.now),.val (num p.next),.own (DN 3 0),.own (DN 4 0)]
def mDPipe (p:LPipe) (k i:Nat):MObj:=
 if k=3∧i=0 then .row 83 3 (p.log.map rvEntry) else if k=1∧i=0∨k=2∧i=0∨k=9 then mDPolicy p.policy k i else if k=4∧i=0∨k=10 then mDWire p.wires k i else mDChannel p.channels k i
def TPipe (k i:Nat):Bool:=decide (k < 5) && i == 0 || decide (5≤k) && decide (k < 11)
theorem d_toPipe (p:LPipe) (hx:bdPipe 1048576 p):CallMem Tryz.prog 11 [.val (rvPipe p)] (fun _=>.dead) (fun _=>false) (.agg (cDPipe p)) (dyn (mDPipe p)):=by
 refine callM_ok mixed ok11 (fun i h=>by cases h) (fun i h=>by cases h) ?_
 unfold ir11
 rw [evalC_intro]
 obtain ⟨b0,b1,b2,b3⟩:=hx
 simp [rvPipe,tx,num]
 refine callN (rs:=[.list 6 (p.channels.map rvChannel)]) (fun k i=>(k == 5 || k == 6 || k == 7 || k == 8) || k == 0 && i == 0) rfl (d_toChannelS p.channels b0) (fun k i hk hl=>mDChannel_ok p.channels k i (fun k j h=>by rcases h with rfl | rfl | rfl | rfl<;>simp) hl) (onT_own (by simp)) ?_
 simp [tx,num,mDChannel,oDChannel]
 refine callN (rs:=[rvPolicy p.policy]) (fun k i=>k == 1 && i == 0 || k == 9 || k == 2 && i == 0) rfl (d_toPolicy p.policy b1) (fun k i hk hl=>mDPolicy_ok p.policy k i (fun k j h=>by subst h;simp) hl) ?_ ?_
 · exact onT_aggs fun q hq=>by
    simp only [cDPolicy,List.mem_cons,List.not_mem_nil,or_false] at hq
    rcases hq with rfl | rfl | rfl
    · exact onT_val
    · exact onT_own (by simp)
    · exact onT_own (by simp)
 simp [tx,num,mDPolicy,mDRule,oDRule,cDPolicy]
 refine callN (rs:=[.list 3 (p.log.map rvEntry)]) (fun k i=>k == 3 && i == 0) rfl (d_toEntryS p.log 3 0 (by omega) b2) ?_ ?_ ?_
 · intro k i hk hl
   by_cases h:k=3∧i=0
   · rw [if_pos h]
     exact ⟨by simp [h],onT_row,fun cs h=>by cases h⟩
   · rw [if_neg h] at hl;cases hl
 · exact onT_own (by simp)
 simp [tx,num]
 refine callN (rs:=[.list 7 (p.wires.map rvWire)]) (fun k i=>(k == 10) || k == 4 && i == 0) rfl (d_toWireS p.wires b3) (fun k i hk hl=>mDWire_ok p.wires k i (fun k j h=>by subst h;simp) hl) (onT_own (by simp)) ?_
 simp [tx,num,mDWire,oDWire,mDPolicy,mDRule,oDRule,mDChannel,oDChannel]
 refine finM_D _ ?_ ?_ ?_ ?_
 · simp [cDPipe,tx,num,resP,resV]
 · intro k i hk hl
   have c1:∀ (k j:Nat),(k=5∨k=6∨k=7∨k=8)→nK (fun k i=>(k == 10) || k == 4 && i == 0) (DN k j)=false:=fun k j h=>by rcases h with rfl | rfl | rfl | rfl<;>simp
   have c2:∀ (k j:Nat),(k=5∨k=6∨k=7∨k=8)→nK (fun k i=>k == 3 && i == 0) (DN k j)=false:=fun k j h=>by rcases h with rfl | rfl | rfl | rfl<;>simp
   have c3:∀ (k j:Nat),(k=5∨k=6∨k=7∨k=8)→nK (fun k i=>k == 1 && i == 0 || k == 9 || k == 2 && i == 0) (DN k j)=false:=fun k j h=>by rcases h with rfl | rfl | rfl | rfl<;>simp
   have r1:∀ (k j:Nat),k=9→nK (fun k i=>(k == 10) || k == 4 && i == 0) (DN k j)=false:=fun k j h=>by subst h;simp
   have r2:∀ (k j:Nat),k=9→nK (fun k i=>k == 3 && i == 0) (DN k j)=false:=fun k j h=>by subst h;simp
   by_cases h1:k=3∧i=0
   · obtain ⟨rfl,rfl⟩:=h1;simp [mDPipe]
   by_cases h2:k=1∧i=0∨k=2∧i=0∨k=9
   · have e:mDPipe p k i=mDPolicy p.policy k i:=by unfold mDPipe;rw [if_neg h1,if_pos h2]
     rw [e] at hl ⊢
     have h3:¬ (k=4∧i=0)∧¬ k=10∧¬ (k=3∧i=0):=by omega
     have h4:(k=1∧i=0∨k=9)∨k=2∧i=0:=by omega
     simp [hk,h3,h4]
     rw [mDPolicy_kill _ _ _ _ r2,mDPolicy_kill _ _ _ _ r1]
   by_cases h3:k=4∧i=0∨k=10
   · have e:mDPipe p k i=mDWire p.wires k i:=by unfold mDPipe;rw [if_neg h1,if_neg h2,if_pos h3]
     rw [e] at hl ⊢
     have h4:k=10∨k=4∧i=0:=by omega
     simp [hk,h4]
   · have e:mDPipe p k i=mDChannel p.channels k i:=by unfold mDPipe;rw [if_neg h1,if_neg h2,if_neg h3]
     rw [e] at hl ⊢
     have h5:=(mDChannel_ok p.channels k i (S:=fun _=>true) (fun _ _ _=>rfl) hl).1
     simp at h5
     have h4:¬ (k=10∨k=4∧i=0):=by omega
     have h6:¬ ((k=1∧i=0∨k=9)∨k=2∧i=0):=by omega
     simp only [evalC_skip,evalC_reg,evalC_draw,evalC_seq,evalC_cond,evalC_block,evalC_exit,evalC_ret,then_normal,then_exit,then_ret,then_pan,inBlock_normal,inBlock_ret,inBlock_pan,inBlock_exit,condS_bool,evalOps_nil,evalOps_cons,evalX_nil,evalX_cons,guardS_none,guardS_some,setD_some,setD_none,ev_t,ev_k,Option.getD_some,Option.getD_none,stepE_mov,stepE_pick,stepE_alloc,stepE_box,stepE_build,stepE_store,stepE_app,stepE_nilck,stepE_bin,stepE_eqb,stepE_eqs,stepE_un,stepE_conv,stepE_faddr,stepE_fld,stepE_load,stepE_iaddr,stepE_idx,stepE_slc,stepE_ext,stepE_lens,stepE_len,stepE_tostr,stepE_mkfn,stepE_ifc,stepE_mn,stepE_mx,stepE_mx4,stepE_mks,stepE_isnil,stepE_lit,stepE_call,stepE_callv,stepX_mov,stepX_nilck,stepX_bin,stepX_eqb,stepX_eqs,stepX_un,stepX_conv,stepX_faddr,stepX_fld,stepX_load,stepX_iaddr,stepX_idx,stepX_slc,stepX_ext,stepX_lens,stepX_len,stepX_tostr,stepX_mkfn,stepX_ifc,stepX_mn,stepX_mx,stepX_mx4,stepX_pick,stepX_build,stepX_lit,stepX_call,stepX_callv,binS_int,binS_str,binI_add,binI_sub,binI_mul,binI_quo,binI_rem,binI_eql,binI_neq,binI_lss,binI_leq,binI_gtr,binI_geq,binStr_add,binStr_eql,binStr_neq,unS_not,unS_neg,upd_app,envOf_nil,envOf_cons,memOf_nil,memOf_cons,RetP_ret,RetP_normal,resP_t,resP_tt,fin_env,frz_val,frz_emp,frz_own,pl_val,pl_emp,kill_val,kill_own,kill_ptr,kill_emp,kill_elt,kill_at,kill_undef,kill_fn,kill_skip,killM_row,killM_box,killM_dead,Kx_k,fillP_nil,fillP_cons,slc_lo,slc_hi,slc_lohi,slcl_lo,slcl_hi,Option.map_some,Option.map_none,iteP_true,iteP_false,onBool_val,onBool_skip,nilck_ptr,nilck_elt,nilck_at,nilck_fn,eqb_val,eqs_val,conv_val,faddr_ptr,faddr_elt,faddr_at,fld_val,fld_agg,load_ptr,loadBox_box,load_elt,loadRow_row,load_at,iaddr_lst,iaddr_own,iaddrRow_row,idx_val,ext_tup,lens_val,len_val,len_emp,len_own,lenRow_row,tostr_val,tostr_emp,tostr_own,tostrRow_row,ifc_val,mn_val,mx_val,mx4_val,lit_some,fn_fn,mks_val,isnil_nilif,isnil_ifc,isnil_emp,isnil_list,isnil_own,isnilRow_row,store_ptrK,storeBox_box,store_eltK,storeRow_row,add_some,app_own,app_emp,appRow_row,addOf_list,addOf_emp,addOf_own,rowOf_row,upd_app,DN_lo,DN_lo',nM_DN hk]
     simp [hk,h1,h4,h6,h5]
     rw [mDChannel_kill _ _ _ _ c3,mDChannel_kill _ _ _ _ c2,mDChannel_kill _ _ _ _ c1]
 · exact onT_aggs fun q hq=>by
    simp only [cDPipe,List.mem_cons,List.not_mem_nil,or_false] at hq
    rcases hq with rfl | rfl | rfl | rfl | rfl | rfl | rfl | rfl
    · exact onT_own (by simp)
    · exact onT_val
    · exact onT_own (by simp)
    · exact onT_own (by simp)
    · exact onT_val
    · exact onT_val
    · exact onT_own (by simp)
    · exact onT_own (by simp)
 · intro k i hk
   unfold mDPipe
   split
   · exact onT_row
   split
   · exact mDPolicy_on p.policy k i fun k j h=>by simp
   split
   · exact mDWire_on p.wires k i fun k j h=>by simp
   · exact mDChannel_on p.channels k i fun k j h=>by simp
end Go.Proofs
end
section
namespace Go.Proofs
open Go.PW Go.KP
attribute [local simp] RV.cells RV.one PV.cells PV.solid PV.one vals? allVal mkAgg setAt RV.ofCells elems PV.killL
variable [GF]
attribute [local simp] TD_DN TD_lo nK_lo nK_DN nM_lo nM_DN dyn_DN dyn_lo isD_lo DN_lo DN_lo' DN_inj DN_isD
theorem d_markRuleS (l:List LRule) (k:Nat) (hx:bdS 1048576 (bdRule 1048576) l) (hk:k+lsum cntRule l < 8388608):CallMem Tryz.prog 99 [.own (DN 2 0),.val (num k)] (dyn (mDRule l)) (fun _=>false) (.val (num ((k+lsum cntRule l:Nat):Int))) (fun _=>.dead):=by
 refine callM_ok mixed okp99 (fun i h=>dyn_okId h) (fun i h=>by cases h) ?_
 unfold irp99
 rw [evalC_intro]
 have hl:l.length≤1048576:=hx.1
 simp [num]
 refine loop_EC (X:=Nat) (fun i=>⟨envOf [(0,.own (DN 2 0)),(1,.val (num ((k+lsum cntRule (l.take i):Nat):Int))),(5,.val (num i))],memD [] (fun k' j=>if k'=2∧j=0 then .prow 154 2 l.length (fun j k=>if i≤j then ocDRule l j k else .undef) else if i≤j then fDRule l k' j else .dead)⟩) (fun i=>i≤l.length) (fun i=>l.length - i) 0 (Le.mkDN _ _ _ ?_ ?_ ?_) (Nat.zero_le _) ?_
 · simp [upd,num,PV.kill,lsum]
 · intro kp hkp;cases hkp
 · intro k' j hk'
   simp [hk',mDRule,oDRule]
   exact .refl _
 · intro i hi
   unfold irp99_l6
   by_cases h1:i < l.length
   · obtain ⟨x,hxe⟩:∃ x,l[i]=x:=⟨_,rfl⟩
     have he:l[i]?=some x:=by rw [List.getElem?_eq_getElem h1,hxe]
     have hbx:bdRule 1048576 x:=by rw [← hxe];exact hx.2 _ (List.getElem_mem h1)
     have ho:∀ k,ocDRule l i k=(cDRule x i).getD k .undef:=fun k=>by unfold ocDRule;rw [he]
     have hf:∀ k,fDRule l k i=rDRule x k:=fun k=>by unfold fDRule;rw [he]
     have hst:lsum cntRule (l.take (i+1))=lsum cntRule (l.take i)+cntRule x:=by rw [lsum_take _ h1,hxe]
     have hle:=lsum_le (f:=cntRule) l (i+1)
     obtain ⟨m0,hm0⟩:∃ m,k+lsum cntRule (l.take i)=m:=⟨_,rfl⟩
     have q1:x.words.length≤1048576:=hbx.2.1
     obtain ⟨m1,hm1⟩:∃ m,m0+1=m:=⟨_,rfl⟩
     obtain ⟨m2,hm2⟩:∃ m,m1+1*x.words.length=m:=⟨_,rfl⟩
     have hcx:cntRule x=1+x.words.length:=rfl
     have hlast:k+lsum cntRule (l.take (i+1))=m2:=by omega
     have s0:IntKind.i64.wrap ((m0:Int)+1)=(m1:Int):=by rw [wrap_i64 (by omega) (by omega)];omega
     have hk0:=c_markText m0 (by omega)
     have hk1:=h_markStringS x.words m1 (by omega) q1
     rw [hm2] at hk1
     rw [hm0]
     simp [num,tx,h1,ho,hf,memD_cons,memD_nil,cDRule,rDRule,s0]
     refine callS_val rfl rfl (.inl rfl) hk0 ?_
     simp [num,tx,h1,ho,hf,memD_cons,memD_nil,cDRule,rDRule,s0]
     refine rowC (by simp [PV.plain1]) rfl rfl rfl hk1 rfl ?_
     simp [num,tx,h1,ho,hf,memD_cons,memD_nil,cDRule,rDRule,s0]
     refine LoopNext.mk (i+1) h1 (by omega) (Le.mkDN _ _ _ ?_ ?_ ?_)
     · simp only [hlast]
       simp [num,s0]
       exact wrap_i64 (by omega) (by omega)
     · intro kp hkp;cases hkp
     · intro k' j hk'
       by_cases h0:k'=2∧j=0
       · obtain ⟨rfl,rfl⟩:=h0
         simp [memD_cons,memD_nil]
         refine .prow _ _ _ _ _ fun j k hj hk=>?_
         by_cases hji:j=i
         · rw [if_neg (show ¬ i+1≤j by omega)];exact .undef _
         · simp [hji]
           by_cases hj2:i≤j
           · rw [if_pos hj2,if_pos (by omega)];exact .refl _
           · rw [if_neg hj2,if_neg (by omega)];exact .undef _
       · rw [if_neg h0]
         by_cases hji:j=i
         · rw [if_neg (show ¬ i+1≤j by omega)];exact .dead _
         · simp [hk',memD_cons,memD_nil,hji,h0]
           by_cases hj2:i≤j
           · rw [if_pos hj2,if_pos (by omega)];exact .refl _
           · rw [if_neg hj2,if_neg (by omega)];exact .refl _
   · have e:i=l.length:=by omega
     subst e
     simp [num,memD_cons,memD_nil]
     refine finM_U ?_
     simp [resP,resV]
theorem resRuleS {M:Nat→MObj} (l:List LRule) (h0:M (DN 2 0)=oDRule l) (h:∀ k j,k < 16→(fDRule l k j).live=true→M (DN k j)=fDRule l k j):Res M (.own (DN 2 0)) (.list 2 (l.map rvRule)):=by
 refine .prow _ _ _ _ (ocDRule l) _ h0 (by simp) (fun x hx=>?_) fun j k hj hk=>?_
 · obtain ⟨y,_,rfl⟩:=List.mem_map.1 hx
   rfl
 have he:l[j]?=some l[j]:=List.getElem?_eq_getElem hj
 have e1:ocDRule l j k=(cDRule l[j] j).getD k .undef:=by unfold ocDRule;rw [he]
 have e2:(l.map rvRule).getD j .nilptr=rvRule l[j]:=by simp [List.getD_eq_getElem?_getD,he]
 rw [e1,e2]
 generalize l[j]=x at he ⊢
 have:k=0∨k=1:=by omega
 rcases this with rfl | rfl
 · exact .val _
 · exact .row _ 9 _ _ (by rw [h 9 j (by omega) (by unfold fDRule;rw [he];rfl)];unfold fDRule;rw [he];rfl)
theorem d_markWireS (l:List LWire) (k:Nat) (hx:bdS 1048576 (bdWire 1048576) l) (hk:k+lsum cntWire l < 8388608):CallMem Tryz.prog 55 [.own (DN 4 0),.val (num k)] (dyn (mDWire l)) (fun _=>false) (.val (num ((k+lsum cntWire l:Nat):Int))) (fun _=>.dead):=by
 refine callM_ok mixed okp55 (fun i h=>dyn_okId h) (fun i h=>by cases h) ?_
 unfold irp55
 rw [evalC_intro]
 have hl:l.length≤1048576:=hx.1
 simp [num]
 refine loop_EC (X:=Nat) (fun i=>⟨envOf [(0,.own (DN 4 0)),(1,.val (num ((k+lsum cntWire (l.take i):Nat):Int))),(5,.val (num i))],memD [] (fun k' j=>if k'=4∧j=0 then .prow 77 7 l.length (fun j k=>if i≤j then ocDWire l j k else .undef) else if i≤j then fDWire l k' j else .dead)⟩) (fun i=>i≤l.length) (fun i=>l.length - i) 0 (Le.mkDN _ _ _ ?_ ?_ ?_) (Nat.zero_le _) ?_
 · simp [upd,num,PV.kill,lsum]
 · intro kp hkp;cases hkp
 · intro k' j hk'
   simp [hk',mDWire,oDWire]
   exact .refl _
 · intro i hi
   unfold irp55_l6
   by_cases h1:i < l.length
   · obtain ⟨x,hxe⟩:∃ x,l[i]=x:=⟨_,rfl⟩
     have he:l[i]?=some x:=by rw [List.getElem?_eq_getElem h1,hxe]
     have hbx:bdWire 1048576 x:=by rw [← hxe];exact hx.2 _ (List.getElem_mem h1)
     have ho:∀ k,ocDWire l i k=(cDWire x i).getD k .undef:=fun k=>by unfold ocDWire;rw [he]
     have hf:∀ k,fDWire l k i=rDWire x k:=fun k=>by unfold fDWire;rw [he]
     have hst:lsum cntWire (l.take (i+1))=lsum cntWire (l.take i)+cntWire x:=by rw [lsum_take _ h1,hxe]
     have hle:=lsum_le (f:=cntWire) l (i+1)
     obtain ⟨m0,hm0⟩:∃ m,k+lsum cntWire (l.take i)=m:=⟨_,rfl⟩
     have q4:x.ids.length≤1048576:=hbx.2.2.1
     obtain ⟨m1,hm1⟩:∃ m,m0+1=m:=⟨_,rfl⟩
     obtain ⟨m2,hm2⟩:∃ m,m1+1=m:=⟨_,rfl⟩
     obtain ⟨m3,hm3⟩:∃ m,m2+1=m:=⟨_,rfl⟩
     obtain ⟨m4,hm4⟩:∃ m,m3+1=m:=⟨_,rfl⟩
     obtain ⟨m5,hm5⟩:∃ m,m4+1*x.ids.length=m:=⟨_,rfl⟩
     obtain ⟨m6,hm6⟩:∃ m,m5+1=m:=⟨_,rfl⟩
     obtain ⟨m7,hm7⟩:∃ m,m6+1=m:=⟨_,rfl⟩
     have hcx:cntWire x=6+x.ids.length:=rfl
     have hlast:k+lsum cntWire (l.take (i+1))=m7:=by omega
     have s0:IntKind.i64.wrap ((m0:Int)+1)=(m1:Int):=by rw [wrap_i64 (by omega) (by omega)];omega
     have s1:IntKind.i64.wrap ((m1:Int)+1)=(m2:Int):=by rw [wrap_i64 (by omega) (by omega)];omega
     have s2:IntKind.i64.wrap ((m2:Int)+1)=(m3:Int):=by rw [wrap_i64 (by omega) (by omega)];omega
     have hk2:=c_markText m2 (by omega)
     have s3:IntKind.i64.wrap ((m3:Int)+1)=(m4:Int):=by rw [wrap_i64 (by omega) (by omega)];omega
     have hk3:=c_markText m3 (by omega)
     have hk4:=h_markIntS x.ids m4 (by omega) q4
     rw [hm5] at hk4
     have s5:IntKind.i64.wrap ((m5:Int)+1)=(m6:Int):=by rw [wrap_i64 (by omega) (by omega)];omega
     have hk5:=c_markText m5 (by omega)
     have s6:IntKind.i64.wrap ((m6:Int)+1)=(m7:Int):=by rw [wrap_i64 (by omega) (by omega)];omega
     rw [hm0]
     simp [num,tx,h1,ho,hf,memD_cons,memD_nil,cDWire,rDWire,s0,s1,s2,s3,s5,s6]
     refine callS_val rfl rfl (.inl rfl) hk2 ?_
     simp [num,tx,h1,ho,hf,memD_cons,memD_nil,cDWire,rDWire,s0,s1,s2,s3,s5,s6]
     refine callS_val rfl rfl (.inl rfl) hk3 ?_
     simp [num,tx,h1,ho,hf,memD_cons,memD_nil,cDWire,rDWire,s0,s1,s2,s3,s5,s6]
     refine rowC (by simp [PV.plain1]) rfl rfl rfl hk4 rfl ?_
     simp [num,tx,h1,ho,hf,memD_cons,memD_nil,cDWire,rDWire,s0,s1,s2,s3,s5,s6]
     refine callS_val rfl rfl (.inl rfl) hk5 ?_
     simp [num,tx,h1,ho,hf,memD_cons,memD_nil,cDWire,rDWire,s0,s1,s2,s3,s5,s6]
     refine LoopNext.mk (i+1) h1 (by omega) (Le.mkDN _ _ _ ?_ ?_ ?_)
     · simp only [hlast]
       simp [num,s0,s1,s2,s3,s5,s6]
       exact wrap_i64 (by omega) (by omega)
     · intro kp hkp;cases hkp
     · intro k' j hk'
       by_cases h0:k'=4∧j=0
       · obtain ⟨rfl,rfl⟩:=h0
         simp [memD_cons,memD_nil]
         refine .prow _ _ _ _ _ fun j k hj hk=>?_
         by_cases hji:j=i
         · rw [if_neg (show ¬ i+1≤j by omega)];exact .undef _
         · simp [hji]
           by_cases hj2:i≤j
           · rw [if_pos hj2,if_pos (by omega)];exact .refl _
           · rw [if_neg hj2,if_neg (by omega)];exact .undef _
       · rw [if_neg h0]
         by_cases hji:j=i
         · rw [if_neg (show ¬ i+1≤j by omega)];exact .dead _
         · simp [hk',memD_cons,memD_nil,hji,h0]
           by_cases hj2:i≤j
           · rw [if_pos hj2,if_pos (by omega)];exact .refl _
           · rw [if_neg hj2,if_neg (by omega)];exact .refl _
   · have e:i=l.length:=by omega
     subst e
     simp [num,memD_cons,memD_nil]
     refine finM_U ?_
     simp [resP,resV]
theorem resWireS {M:Nat→MObj} (l:List LWire) (h0:M (DN 4 0)=oDWire l) (h:∀ k j,k < 16→(fDWire l k j).live=true→M (DN k j)=fDWire l k j):Res M (.own (DN 4 0)) (.list 7 (l.map rvWire)):=by
 refine .prow _ _ _ _ (ocDWire l) _ h0 (by simp) (fun x hx=>?_) fun j k hj hk=>?_
 · obtain ⟨y,_,rfl⟩:=List.mem_map.1 hx
   rfl
 have he:l[j]?=some l[j]:=List.getElem?_eq_getElem hj
 have e1:ocDWire l j k=(cDWire l[j] j).getD k .undef:=by unfold ocDWire;rw [he]
 have e2:(l.map rvWire).getD j .nilptr=rvWire l[j]:=by simp [List.getD_eq_getElem?_getD,he]
 rw [e1,e2]
 generalize l[j]=x at he ⊢
 have:k=0∨k=1∨k=2∨k=3∨k=4∨k=5∨k=6:=by omega
 rcases this with rfl | rfl | rfl | rfl | rfl | rfl | rfl
 · exact .val _
 · exact .val _
 · exact .val _
 · exact .val _
 · exact .row _ 3 _ _ (by rw [h 10 j (by omega) (by unfold fDWire;rw [he];rfl)];unfold fDWire;rw [he];rfl)
 · exact .val _
 · exact .val _
theorem d_markChannelS (l:List LChannel) (k:Nat) (hx:bdS 1048576 (bdChannel 1048576) l) (hk:k+lsum cntChannel l < 8388608):CallMem Tryz.prog 53 [.own (DN 0 0),.val (num k)] (dyn (mDChannel l)) (fun _=>false) (.val (num ((k+lsum cntChannel l:Nat):Int))) (fun _=>.dead):=by
 refine callM_ok mixed okp53 (fun i h=>dyn_okId h) (fun i h=>by cases h) ?_
 unfold irp53
 rw [evalC_intro]
 have hl:l.length≤1048576:=hx.1
 simp [num]
 refine loop_EC (X:=Nat) (fun i=>⟨envOf [(0,.own (DN 0 0)),(1,.val (num ((k+lsum cntChannel (l.take i):Nat):Int))),(5,.val (num i))],memD [] (fun k' j=>if k'=0∧j=0 then .prow 120 6 l.length (fun j k=>if i≤j then ocDChannel l j k else .undef) else if i≤j then fDChannel l k' j else .dead)⟩) (fun i=>i≤l.length) (fun i=>l.length - i) 0 (Le.mkDN _ _ _ ?_ ?_ ?_) (Nat.zero_le _) ?_
 · simp [upd,num,PV.kill,lsum]
 · intro kp hkp;cases hkp
 · intro k' j hk'
   simp [hk',mDChannel,oDChannel]
   exact .refl _
 · intro i hi
   unfold irp53_l6
   by_cases h1:i < l.length
   · obtain ⟨x,hxe⟩:∃ x,l[i]=x:=⟨_,rfl⟩
     have he:l[i]?=some x:=by rw [List.getElem?_eq_getElem h1,hxe]
     have hbx:bdChannel 1048576 x:=by rw [← hxe];exact hx.2 _ (List.getElem_mem h1)
     have ho:∀ k,ocDChannel l i k=(cDChannel x i).getD k .undef:=fun k=>by unfold ocDChannel;rw [he]
     have hf:∀ k,fDChannel l k i=rDChannel x k:=fun k=>by unfold fDChannel;rw [he]
     have hst:lsum cntChannel (l.take (i+1))=lsum cntChannel (l.take i)+cntChannel x:=by rw [lsum_take _ h1,hxe]
     have hle:=lsum_le (f:=cntChannel) l (i+1)
     obtain ⟨m0,hm0⟩:∃ m,k+lsum cntChannel (l.take i)=m:=⟨_,rfl⟩
     have q2:x.group.targets.length≤1048576:=hbx.1.2.1
     have q3:x.peers.length≤1048576:=hbx.2.1.1
     have q4:x.queue.items.length≤1048576:=hbx.2.2.1.1
     have q5:x.queue.recent.length≤1048576:=hbx.2.2.2.1
     obtain ⟨m1,hm1⟩:∃ m,m0+1=m:=⟨_,rfl⟩
     obtain ⟨m2,hm2⟩:∃ m,m1+1=m:=⟨_,rfl⟩
     obtain ⟨m3,hm3⟩:∃ m,m2+3*x.group.targets.length=m:=⟨_,rfl⟩
     obtain ⟨m4,hm4⟩:∃ m,m3+6*x.peers.length=m:=⟨_,rfl⟩
     obtain ⟨m5,hm5⟩:∃ m,m4+4*x.queue.items.length=m:=⟨_,rfl⟩
     obtain ⟨m6,hm6⟩:∃ m,m5+1*x.queue.recent.length=m:=⟨_,rfl⟩
     have hcx:cntChannel x=2+3*x.group.targets.length+6*x.peers.length+4*x.queue.items.length+x.queue.recent.length:=rfl
     have hlast:k+lsum cntChannel (l.take (i+1))=m6:=by omega
     have s0:IntKind.i64.wrap ((m0:Int)+1)=(m1:Int):=by rw [wrap_i64 (by omega) (by omega)];omega
     have hk0:=c_markText m0 (by omega)
     have s1:IntKind.i64.wrap ((m1:Int)+1)=(m2:Int):=by rw [wrap_i64 (by omega) (by omega)];omega
     have hk2:=h_markTargetS x.group.targets m2 (by omega) q2
     rw [hm3] at hk2
     have hk3:=h_markPeerS x.peers m3 (by omega) q3
     rw [hm4] at hk3
     have hk4:=h_markReportS x.queue.items m4 (by omega) q4
     rw [hm5] at hk4
     have hk5:=h_markStringS x.queue.recent m5 (by omega) q5
     rw [hm6] at hk5
     rw [hm0]
     simp [num,tx,h1,ho,hf,memD_cons,memD_nil,cDChannel,rDChannel,s0,s1]
     refine callS_val rfl rfl (.inl rfl) hk0 ?_
     simp [num,tx,h1,ho,hf,memD_cons,memD_nil,cDChannel,rDChannel,s0,s1]
     refine rowC (by simp [PV.plain1]) rfl rfl rfl hk2 rfl ?_
     simp [num,tx,h1,ho,hf,memD_cons,memD_nil,cDChannel,rDChannel,s0,s1]
     refine rowC (by simp [PV.plain1]) rfl rfl rfl hk3 rfl ?_
     simp [num,tx,h1,ho,hf,memD_cons,memD_nil,cDChannel,rDChannel,s0,s1]
     refine rowC (by simp [PV.plain1]) rfl rfl rfl hk4 rfl ?_
     simp [num,tx,h1,ho,hf,memD_cons,memD_nil,cDChannel,rDChannel,s0,s1]
     refine rowC (by simp [PV.plain1]) rfl rfl rfl hk5 rfl ?_
     simp [num,tx,h1,ho,hf,memD_cons,memD_nil,cDChannel,rDChannel,s0,s1]
     refine LoopNext.mk (i+1) h1 (by omega) (Le.mkDN _ _ _ ?_ ?_ ?_)
     · simp only [hlast]
       simp [num,s0,s1]
       exact wrap_i64 (by omega) (by omega)
     · intro kp hkp;cases hkp
     · intro k' j hk'
       by_cases h0:k'=0∧j=0
       · obtain ⟨rfl,rfl⟩:=h0
         simp [memD_cons,memD_nil]
         refine .prow _ _ _ _ _ fun j k hj hk=>?_
         by_cases hji:j=i
         · rw [if_neg (show ¬ i+1≤j by omega)];exact .undef _
         · simp [hji]
           by_cases hj2:i≤j
           · rw [if_pos hj2,if_pos (by omega)];exact .refl _
           · rw [if_neg hj2,if_neg (by omega)];exact .undef _
       · rw [if_neg h0]
         by_cases hji:j=i
         · rw [if_neg (show ¬ i+1≤j by omega)];exact .dead _
         · simp [hk',memD_cons,memD_nil,hji,h0]
           by_cases hj2:i≤j
           · rw [if_pos hj2,if_pos (by omega)];exact .refl _
           · rw [if_neg hj2,if_neg (by omega)];exact .refl _
   · have e:i=l.length:=by omega
     subst e
     simp [num,memD_cons,memD_nil]
     refine finM_U ?_
     simp [resP,resV]
theorem resChannelS {M:Nat→MObj} (l:List LChannel) (h0:M (DN 0 0)=oDChannel l) (h:∀ k j,k < 16→(fDChannel l k j).live=true→M (DN k j)=fDChannel l k j):Res M (.own (DN 0 0)) (.list 6 (l.map rvChannel)):=by
 refine .prow _ _ _ _ (ocDChannel l) _ h0 (by simp) (fun x hx=>?_) fun j k hj hk=>?_
 · obtain ⟨y,_,rfl⟩:=List.mem_map.1 hx
   rfl
 have he:l[j]?=some l[j]:=List.getElem?_eq_getElem hj
 have e1:ocDChannel l j k=(cDChannel l[j] j).getD k .undef:=by unfold ocDChannel;rw [he]
 have e2:(l.map rvChannel).getD j .nilptr=rvChannel l[j]:=by simp [List.getD_eq_getElem?_getD,he]
 rw [e1,e2]
 generalize l[j]=x at he ⊢
 have:k=0∨k=1∨k=2∨k=3∨k=4∨k=5:=by omega
 rcases this with rfl | rfl | rfl | rfl | rfl | rfl
 · exact .val _
 · exact .val _
 · exact .row _ 162 _ _ (by rw [h 5 j (by omega) (by unfold fDChannel;rw [he];rfl)];unfold fDChannel;rw [he];rfl)
 · exact .row _ 164 _ _ (by rw [h 6 j (by omega) (by unfold fDChannel;rw [he];rfl)];unfold fDChannel;rw [he];rfl)
 · exact .row _ 146 _ _ (by rw [h 7 j (by omega) (by unfold fDChannel;rw [he];rfl)];unfold fDChannel;rw [he];rfl)
 · exact .row _ 9 _ _ (by rw [h 8 j (by omega) (by unfold fDChannel;rw [he];rfl)];unfold fDChannel;rw [he];rfl)
end Go.Proofs
end
section
namespace Go.Proofs
open Go.PW Go.KP
attribute [local simp] RV.cells RV.one PV.cells PV.solid PV.one vals? allVal mkAgg setAt RV.ofCells elems PV.killL
variable [GF]
attribute [local simp] TD_DN TD_lo nK_lo nK_DN nM_lo nM_DN dyn_DN dyn_lo isD_lo DN_lo DN_lo' DN_inj DN_isD
theorem d_markPolicy (p:LPolicy) (k:Nat) (hx:bdPolicy 1048576 p) (hk:k+p.uris.length+lsum cntRule p.rules < 8388608):CallMem Tryz.prog 54 [.agg (cDPolicy p),.val (num k)] (dyn (mDPolicy p)) (fun _=>false) (.val (num ((k+p.uris.length+lsum cntRule p.rules:Nat):Int))) (fun _=>.dead):=by
 refine callM_ok mixed ok54 (fun i h=>dyn_okId h) (fun i h=>by cases h) ?_
 unfold ir54
 rw [evalC_intro]
 obtain ⟨b0,b1,b2⟩:=hx
 have hl1:p.uris.length≤1048576:=b1.1
 have h1:=h_markStringS p.uris k (by omega) hl1
 have h2:=d_markRuleS p.rules (k+p.uris.length) b2 (by omega)
 rw [Nat.one_mul] at h1
 obtain ⟨m,hm⟩:∃ m,k+p.uris.length=m:=⟨_,rfl⟩
 rw [hm] at h1 h2 ⊢
 simp [num,tx,cDPolicy,mDPolicy,mDRule,oDRule]
 refine rowC (by simp [PV.plain1]) rfl rfl rfl h1 rfl ?_
 simp [num,tx,cDPolicy,mDPolicy,mDRule,oDRule]
 refine callU (G:=mDRule p.rules) (fun k i=>k == 9 || k == 2 && i == 0) h2 ?_ ?_ ?_
 · intro q hq
   simp only [List.mem_cons,List.not_mem_nil,or_false] at hq
   rcases hq with rfl | rfl
   · exact onT_own (by simp)
   · exact onT_val
 · intro k i hk' hl
   obtain ⟨e1,e2,_⟩:=mDRule_ok p.rules k i (S:=TD fun k i=>k == 9 || k == 2 && i == 0) (fun k j h=>by subst h;simp) hl
   refine ⟨e1,?_,e2⟩
   have h5:¬ (k=1∧i=0):=by simp at e1;omega
   simp [hk',h5,mDPolicy]
   rw [mDRule_kill _ _ _ _ fun k j h=>by simp]
 simp [num]
 refine finM_U ?_
 simp [resP,resV,num]
theorem d_markPipe (p:LPipe) (k:Nat) (hx:bdPipe 1048576 p) (hk:k+cntPipe p < 8388608):CallMem Tryz.prog 19 [.agg (cDPipe p),.val (num k)] (dyn (mDPipe p)) (fun _=>false) (.val (num ((k+cntPipe p:Nat):Int))) (fun _=>.dead):=by
 refine callM_ok mixed ok19 (fun i h=>dyn_okId h) (fun i h=>by cases h) ?_
 unfold ir19
 rw [evalC_intro]
 obtain ⟨b0,b1,b2,b3⟩:=hx
 have hcp:cntPipe p=lsum cntChannel p.channels+p.policy.uris.length+lsum cntRule p.policy.rules+3*p.log.length+lsum cntWire p.wires:=rfl
 obtain ⟨m1,hm1⟩:∃ m,k+lsum cntChannel p.channels=m:=⟨_,rfl⟩
 obtain ⟨m2,hm2⟩:∃ m,m1+p.policy.uris.length+lsum cntRule p.policy.rules=m:=⟨_,rfl⟩
 obtain ⟨m3,hm3⟩:∃ m,m2+3*p.log.length=m:=⟨_,rfl⟩
 obtain ⟨m4,hm4⟩:∃ m,m3+lsum cntWire p.wires=m:=⟨_,rfl⟩
 have h1:=d_markChannelS p.channels k b0 (by omega)
 have h2:=d_markPolicy p.policy m1 b1 (by omega)
 have h3:=h_markEntryS p.log m2 (by omega) b2
 have h4:=d_markWireS p.wires m3 b3 (by omega)
 have hm:k+cntPipe p=m4:=by omega
 rw [hm1] at h1
 rw [hm2] at h2
 rw [hm3] at h3
 rw [hm4] at h4
 rw [hm]
 simp [num,tx,cDPipe,mDPipe,mDPolicy,mDRule,oDRule,mDChannel,oDChannel,mDWire,oDWire]
 refine callU (G:=mDChannel p.channels) (fun k i=>(k == 5 || k == 6 || k == 7 || k == 8) || k == 0 && i == 0) h1 ?_ ?_ ?_
 · intro q hq
   simp only [List.mem_cons,List.not_mem_nil,or_false] at hq
   rcases hq with rfl | rfl
   · exact onT_own (by simp)
   · exact onT_val
 · intro k i hk' hl
   obtain ⟨e1,e2,_⟩:=mDChannel_ok p.channels k i (S:=TD fun k i=>(k == 5 || k == 6 || k == 7 || k == 8) || k == 0 && i == 0) (fun k j h=>by rcases h with rfl | rfl | rfl | rfl<;>simp) hl
   refine ⟨e1,?_,e2⟩
   have h5:¬ (k=3∧i=0)∧¬ (k=1∧i=0∨k=2∧i=0∨k=9)∧¬ (k=4∧i=0∨k=10):=by simp at e1;omega
   simp [hk',mDPipe,h5.1,h5.2.1,h5.2.2]
   rw [mDChannel_kill _ _ _ _ fun k j h=>by simp]
 simp [num,tx,cDPipe,mDPipe,mDPolicy,mDRule,oDRule,mDChannel,oDChannel,mDWire,oDWire]
 refine callU (G:=mDPolicy p.policy) (fun k i=>k == 1 && i == 0 || k == 9 || k == 2 && i == 0) h2 ?_ ?_ ?_
 · intro q hq
   simp only [List.mem_cons,List.not_mem_nil,or_false] at hq
   rcases hq with rfl | rfl
   · exact onT_aggs fun q hq=>by
      simp only [cDPolicy,List.mem_cons,List.not_mem_nil,or_false] at hq
      rcases hq with rfl | rfl | rfl
      · exact onT_val
      · exact onT_own (by simp)
      · exact onT_own (by simp)
   · exact onT_val
 · intro k i hk' hl
   obtain ⟨e1,e2,_⟩:=mDPolicy_ok p.policy k i (S:=TD fun k i=>k == 1 && i == 0 || k == 9 || k == 2 && i == 0) (fun k j h=>by subst h;simp) hl
   refine ⟨e1,?_,e2⟩
   have h5:¬ (k=3∧i=0)∧(k=1∧i=0∨k=2∧i=0∨k=9)∧¬ ((((k=5∨k=6)∨k=7)∨k=8)∨k=0∧i=0):=by simp at e1;omega
   simp [hk',mDPipe,h5.1,h5.2.1,h5.2.2]
   rw [mDPolicy_kill _ _ _ _ fun k j h=>by simp,mDPolicy_kill _ _ _ _ fun k j h=>by subst h;simp]
 simp [num,tx,cDPipe,mDPipe,mDPolicy,mDRule,oDRule,mDChannel,oDChannel,mDWire,oDWire]
 refine rowC (by simp [PV.plain1]) rfl rfl rfl h3 rfl ?_
 simp [num,tx,cDPipe,mDPipe,mDPolicy,mDRule,oDRule,mDChannel,oDChannel,mDWire,oDWire]
 refine callU (G:=mDWire p.wires) (fun k i=>(k == 10) || k == 4 && i == 0) h4 ?_ ?_ ?_
 · intro q hq
   simp only [List.mem_cons,List.not_mem_nil,or_false] at hq
   rcases hq with rfl | rfl
   · exact onT_own (by simp)
   · exact onT_val
 · intro k i hk' hl
   obtain ⟨e1,e2,_⟩:=mDWire_ok p.wires k i (S:=TD fun k i=>(k == 10) || k == 4 && i == 0) (fun k j h=>by subst h;simp) hl
   refine ⟨e1,?_,e2⟩
   have h5:¬ (k=3∧i=0)∧¬ (k=1∧i=0∨k=2∧i=0∨k=9)∧(k=4∧i=0∨k=10)∧¬ ((((k=5∨k=6)∨k=7)∨k=8)∨k=0∧i=0)∧¬ ((k=1∧i=0∨k=9)∨k=2∧i=0):=by simp at e1;omega
   simp [hk',mDPipe,h5.1,h5.2.1,h5.2.2.1,h5.2.2.2.1,h5.2.2.2.2]
   rw [mDWire_kill _ _ _ _ fun k j h=>by simp,mDWire_kill _ _ _ _ fun k j h=>by subst h;simp,mDWire_kill _ _ _ _ fun k j h=>by subst h;simp]
 simp [num]
 refine finM_U ?_
 simp [resP,resV,num]
theorem mDPolicy_up (p:LPipe) (k i:Nat) (h:k=1∧i=0∨k=2∧i=0∨k=9):mDPipe p k i=mDPolicy p.policy k i:=by
 unfold mDPipe;rw [if_neg (by omega),if_pos h]
theorem mDWire_up (p:LPipe) (k i:Nat) (h:k=4∧i=0∨k=10):mDPipe p k i=mDWire p.wires k i:=by
 unfold mDPipe;rw [if_neg (by omega),if_neg (by omega),if_pos h]
theorem mDChannel_up (p:LPipe) (k i:Nat) (h:k=0∧i=0∨k=5∨k=6∨k=7∨k=8):mDPipe p k i=mDChannel p.channels k i:=by
 unfold mDPipe;rw [if_neg (by omega),if_neg (by omega),if_neg (by omega)]
theorem mDPipe_ok (p:LPipe) (k i:Nat) (h:(mDPipe p k i).live=true):TPipe k i=true:=by
 unfold mDPipe at h
 unfold TPipe
 split at h
 · rename_i e;simp [e]
 split at h
 · rename_i e;rcases e with e | e | e<;>simp [e]
 split at h
 · rename_i e;rcases e with e | e<;>simp [e]
 · have:=(mDChannel_ok p.channels k i (S:=fun _=>true) (fun _ _ _=>rfl) h).1
   simp at this
   simp;omega
theorem mDPipe_on (p:LPipe) (k i:Nat):(mDPipe p k i).onT (TD TPipe):=by
 unfold mDPipe
 split
 · exact onT_row
 split
 · exact mDPolicy_on p.policy k i fun k j h=>by subst h;simp [TPipe]
 split
 · exact mDWire_on p.wires k i fun k j h=>by subst h;simp [TPipe]
 · exact mDChannel_on p.channels k i fun k j h=>by rcases h with rfl | rfl | rfl | rfl<;>simp [TPipe]
theorem mDPipe_box (p:LPipe) (k i:Nat):∀ cs,mDPipe p k i≠.box cs:=by
 intro cs h
 have hl:(mDPipe p k i).live=true:=by rw [h];rfl
 unfold mDPipe at h hl
 split at h
 · cases h
 rename_i h0
 rw [if_neg h0] at hl
 split at h
 · rename_i e;rw [if_pos e] at hl;exact (mDPolicy_ok p.policy k i (S:=fun _=>true) (fun _ _ _=>rfl) hl).2.2 cs h
 rename_i h1
 rw [if_neg h1] at hl
 split at h
 · rename_i e;rw [if_pos e] at hl;exact (mDWire_ok p.wires k i (S:=fun _=>true) (fun _ _ _=>rfl) hl).2.2 cs h
 · rename_i e;rw [if_neg e] at hl;exact (mDChannel_ok p.channels k i (S:=fun _=>true) (fun _ _ _=>rfl) hl).2.2 cs h
theorem mDPipe_kill (p:LPipe) (k i:Nat) (d:Nat→Bool) (h:∀ x,TD TPipe x=true→d x=false):(mDPipe p k i).kill d=mDPipe p k i:=(mDPipe_on p k i).2 d h
theorem mDPipe_k8 (p:LPipe) (k i n:Nat) (hn:n < 1000000):(mDPipe p k i).kill (fun x=>x == n)=mDPipe p k i:=mDPipe_kill p k i _ fun x hx=>by
 have:=TD_D hx
 simp [isD] at this
 simp;omega
theorem cDPipe_on (p:LPipe):(PV.agg (cDPipe p)).onT (TD TPipe):=onT_aggs fun q hq=>by
 simp only [cDPipe,List.mem_cons,List.not_mem_nil,or_false] at hq
 rcases hq with rfl | rfl | rfl | rfl | rfl | rfl | rfl | rfl
 · exact onT_own (by simp [TPipe])
 · exact onT_val
 · exact onT_own (by simp [TPipe])
 · exact onT_own (by simp [TPipe])
 · exact onT_val
 · exact onT_val
 · exact onT_own (by simp [TPipe])
 · exact onT_own (by simp [TPipe])
theorem res_pipe (p:LPipe) (M:Nat→MObj) (h:∀ k j,k < 16→TPipe k j=true→M (DN k j)=mDPipe p k j):Res M (.agg (cDPipe p)) (rvPipe p):=by
 have hc:=resChannelS (M:=M) p.channels (by rw [h 0 0 (by omega) (by simp [TPipe]),mDChannel_up _ _ _ (by omega)];simp [mDChannel]) fun k j hk hl=>by
  rcases fDChannel_row p.channels k j with ⟨h',_,_⟩ | e
  · rw [h k j hk (by rcases h' with rfl | rfl | rfl | rfl<;>simp [TPipe]),mDChannel_up _ _ _ (by omega)]
    unfold mDChannel;rw [if_neg (by omega)]
  · rw [e] at hl;cases hl
 have hr:=resRuleS (M:=M) p.policy.rules (by rw [h 2 0 (by omega) (by simp [TPipe]),mDPolicy_up _ _ _ (by omega)];simp [mDPolicy,mDRule]) fun k j hk hl=>by
  rcases fDRule_row p.policy.rules k j with ⟨h',_,_⟩ | e
  · rw [h k j hk (by subst h';simp [TPipe]),mDPolicy_up _ _ _ (by omega)]
    unfold mDPolicy mDRule;rw [if_neg (by omega),if_neg (by omega)]
  · rw [e] at hl;cases hl
 have hw:=resWireS (M:=M) p.wires (by rw [h 4 0 (by omega) (by simp [TPipe]),mDWire_up _ _ _ (by omega)];simp [mDWire]) fun k j hk hl=>by
  rcases fDWire_row p.wires k j with ⟨h',_,_⟩ | e
  · rw [h k j hk (by subst h';simp [TPipe]),mDWire_up _ _ _ (by omega)]
    unfold mDWire;rw [if_neg (by omega)]
  · rw [e] at hl;cases hl
 refine .agg _ _ rfl fun i hi=>?_
 have:i=0∨i=1∨i=2∨i=3∨i=4∨i=5∨i=6∨i=7:=by simp [cDPipe] at hi;omega
 rcases this with rfl | rfl | rfl | rfl | rfl | rfl | rfl | rfl
 · exact hc
 · exact .val _
 · exact .row _ 9 _ _ (by rw [h 1 0 (by omega) (by simp [TPipe]),mDPolicy_up _ _ _ (by omega)];simp [mDPolicy])
 · exact hr
 · exact .val _
 · exact .val _
 · exact .row _ 83 _ _ (by rw [h 3 0 (by omega) (by simp [TPipe])];simp [mDPipe])
 · exact hw
theorem x_toPipe (p:LPipe) (hs:bdPipe 1048576 p):CallOK Tryz.prog 11 [.val (rvPipe p)] (.ret (.val (rvPipe p)) []) []:=
 ok_of_mem (d_toPipe p hs) (res_pipe p _ fun k j hk _=>dyn_DN hk)
end Go.Proofs
end
