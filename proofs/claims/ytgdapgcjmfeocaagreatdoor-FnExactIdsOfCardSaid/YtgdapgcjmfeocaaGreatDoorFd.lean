/- Fd: merged out of KXb, KXc, KXd, KXe. -/
import Derived.Test.YtgdapgcjmfeocaaGreatDoorFc
import Derived.Test.YtgdapgcjmfeocaaGreatDoorPWaf
import Derived.Test.YtgdapgcjmfeocaaGreatDoorPWag
set_option linter.unusedSectionVars false
set_option linter.unusedSimpArgs false
set_option linter.unusedVariables false
set_option maxRecDepth 100000
section
namespace Go.Proofs
open Go.PW Go.KP
attribute [local simp] RV.cells RV.one PV.cells PV.solid PV.one im ao kh ke RV.ofCells elems PV.killL
variable [GF]
attribute [local simp] y6 Fn M4 M5 M3 Jo vp Hz B0 J5 Ek Ip Cm
theorem wm {α:Type} {f:α→RV} (h:∀ x,(f x).flat=true) (l:List α):∀ x∈l.map f,x.flat=true:=fun x hx=>by
 obtain ⟨y,_,rfl⟩:=List.mem_map.1 hx
 exact h y
theorem Ae (l:List Tx) (k j:Nat) (hk:k < 16) (hx:bdS 1048576 (fun t=>t.length≤1048576) l):mg Tryz.prog 76 [.val (.list 1 (l.map tx))] (fun _=>.dead) (fun _=>false) (.own (DN k j)) (dyn fun k' j'=>if k'=k∧j'=j then .row 9 1 (l.map tx) else .dead):=
 Av (D6 l hx) (wm (fun _=>rfl) l) k j hk
theorem Xu (l:List Int) (k j:Nat) (hk:k < 16) (hx:l.length≤1048576):mg Tryz.prog 120 [.val (.list 1 (l.map num))] (fun _=>.dead) (fun _=>false) (.own (DN k j)) (dyn fun k' j'=>if k'=k∧j'=j then .row 3 1 (l.map num) else .dead):=
 Av (Ja l hx) (wm (fun _=>rfl) l) k j hk
theorem Oo (l:List LTarget) (k j:Nat) (hk:k < 16) (hx:bdS 1048576 (nt 1048576) l):mg Tryz.prog 155 [.val (.list 3 (l.map al))] (fun _=>.dead) (fun _=>false) (.own (DN k j)) (dyn fun k' j'=>if k'=k∧j'=j then .row 162 3 (l.map al) else .dead):=
 Av (D5 l hx) (wm (fun _=>rfl) l) k j hk
theorem Ux (l:List LPeer) (k j:Nat) (hk:k < 16) (hx:bdS 1048576 (rc 1048576) l):mg Tryz.prog 117 [.val (.list 6 (l.map ig))] (fun _=>.dead) (fun _=>false) (.own (DN k j)) (dyn fun k' j'=>if k'=k∧j'=j then .row 164 6 (l.map ig) else .dead):=
 Av (Hn l hx) (wm (fun _=>rfl) l) k j hk
theorem Oq (l:List LReport) (k j:Nat) (hk:k < 16) (hx:bdS 1048576 (ov 1048576) l):mg Tryz.prog 157 [.val (.list 4 (l.map aq))] (fun _=>.dead) (fun _=>false) (.own (DN k j)) (dyn fun k' j'=>if k'=k∧j'=j then .row 146 4 (l.map aq) else .dead):=
 Av (D7 l hx) (wm (fun _=>rfl) l) k j hk
theorem Rk (l:List LEntry) (k j:Nat) (hk:k < 16) (hx:l.length≤1048576):mg Tryz.prog 39 [.val (.list 3 (l.map eo))] (fun _=>.dead) (fun _=>false) (.own (DN k j)) (dyn fun k' j'=>if k'=k∧j'=j then .row 83 3 (l.map eo) else .dead):=
 Av (Fv l hx) (wm (fun _=>rfl) l) k j hk
def vd (x:LGroup) (j:Nat):List PV:=[.val (tx x.name),.val (num x.age),.own (DN 5 j)]
def ti (x:LGroup) (k:Nat):MObj:=if k=5 then .row 162 3 (x.targets.map al) else .dead
theorem zj (x:LGroup) (k:Nat):((k=5)∧∃ E sz xs,ti x k=.row E sz xs)∨ti x k=.dead∧¬ (k=5):=by
 by_cases h:k=5
 · refine .inl ⟨h,?_⟩
   unfold ti
   subst h;simp
 · refine .inr ⟨?_,h⟩
   unfold ti
   skip
   simp [h]
theorem Ie (x:LGroup) (j:Nat) {S:Nat→Bool} (h:∀ k,(k=5)→S (DN k j)=true):(PV.agg (vd x j)).onT S:=by
 refine s8 fun p hp=>?_
 simp only [vd,List.mem_cons,List.not_mem_nil,or_false] at hp
 rcases hp with rfl | rfl | rfl
 · exact mv
 · exact mv
 · exact lp (h _ (by simp))
theorem Uy (x:LGroup) (j:Nat) (hx:sl 1048576 x):mg Tryz.prog 116 [.val (ki x)] (fun _=>.dead) (fun _=>false) (.agg (vd x j)) (dyn fun k i=>if i=j then ti x k else .dead):=by
 refine ou mixed ok116 (fun i h=>by cases h) (fun i h=>by cases h) ?_
 unfold ir116
 rw [aa]
 unfold sl at hx
 obtain ⟨b0,b1⟩:=hx
 simp [ki,tx,num]
 refine uu (rs:=[.list 3 (x.targets.map al)]) (fun k' i'=>k' == 5 && i' == j) rfl (Oo x.targets 5 j (by omega) b1) ?_ ?_ ?_
 · intro k i hk hl
   by_cases h:k=5∧i=j
   · rw [if_pos h]
     exact ⟨by simp [h],np,fun cs h=>by cases h⟩
   · rw [if_neg h] at hl;cases hl
 · exact lp (by simp)
 simp [ki,tx,num]
 refine B7 _ ?_ ?_ ?_ ?_
 · simp [vd,ti,ki,tx,num,nl,wa]
 · intro k i hk hl
   by_cases h:i=j
   · subst h
     rw [if_pos rfl] at hl ⊢
     rcases zj x k with ⟨h,E,sz,xs,e⟩ | ⟨h,_⟩
     · subst h<;>simp [vd,ti]
     · rw [h] at hl;cases hl
   · rw [if_neg h] at hl;cases hl
 · exact Ie x j fun k _=>by simp
 · intro k i hk
   by_cases h:i=j
   · rw [if_pos h]
     rcases zj x k with ⟨h,E,sz,xs,e⟩ | ⟨h,_⟩
     · rw [e];exact np
     · rw [h];exact o6
   · rw [if_neg h];exact o6
def vc (x:LQueue) (j:Nat):List PV:=[.own (DN 7 j),.own (DN 8 j)]
def th (x:LQueue) (k:Nat):MObj:=if k=7 then .row 146 4 (x.items.map aq) else if k=8 then .row 9 1 (x.recent.map tx) else .dead
theorem zi (x:LQueue) (k:Nat):((k=7∨k=8)∧∃ E sz xs,th x k=.row E sz xs)∨th x k=.dead∧¬ (k=7∨k=8):=by
 by_cases h:k=7∨k=8
 · refine .inl ⟨h,?_⟩
   unfold th
   rcases h with rfl | rfl<;>simp
 · refine .inr ⟨?_,h⟩
   unfold th
   simp only [not_or] at h
   simp [h]
theorem Id (x:LQueue) (j:Nat) {S:Nat→Bool} (h:∀ k,(k=7∨k=8)→S (DN k j)=true):(PV.agg (vc x j)).onT S:=by
 refine s8 fun p hp=>?_
 simp only [vc,List.mem_cons,List.not_mem_nil,or_false] at hp
 rcases hp with rfl | rfl
 · exact lp (h _ (by simp))
 · exact lp (h _ (by simp))
theorem Uw (x:LQueue) (j:Nat) (hx:tk 1048576 x):mg Tryz.prog 118 [.val (j8 x)] (fun _=>.dead) (fun _=>false) (.agg (vc x j)) (dyn fun k i=>if i=j then th x k else .dead):=by
 refine ou mixed ok118 (fun i h=>by cases h) (fun i h=>by cases h) ?_
 unfold ir118
 rw [aa]
 unfold tk at hx
 obtain ⟨b0,b1⟩:=hx
 simp [j8,tx,num]
 refine uu (rs:=[.list 4 (x.items.map aq)]) (fun k' i'=>k' == 7 && i' == j) rfl (Oq x.items 7 j (by omega) b0) ?_ ?_ ?_
 · intro k i hk hl
   by_cases h:k=7∧i=j
   · rw [if_pos h]
     exact ⟨by simp [h],np,fun cs h=>by cases h⟩
   · rw [if_neg h] at hl;cases hl
 · exact lp (by simp)
 simp [j8,tx,num]
 refine uu (rs:=[.list 1 (x.recent.map tx)]) (fun k' i'=>k' == 8 && i' == j) rfl (Ae x.recent 8 j (by omega) b1) ?_ ?_ ?_
 · intro k i hk hl
   by_cases h:k=8∧i=j
   · rw [if_pos h]
     exact ⟨by simp [h],np,fun cs h=>by cases h⟩
   · rw [if_neg h] at hl;cases hl
 · exact lp (by simp)
 simp [j8,tx,num]
 refine B7 _ ?_ ?_ ?_ ?_
 · simp [vc,th,j8,tx,num,nl,wa]
 · intro k i hk hl
   by_cases h:i=j
   · subst h
     rw [if_pos rfl] at hl ⊢
     rcases zi x k with ⟨h,E,sz,xs,e⟩ | ⟨h,_⟩
     · rcases h with rfl | rfl<;>simp [vc,th]
     · rw [h] at hl;cases hl
   · rw [if_neg h] at hl;cases hl
 · exact Id x j fun k _=>by simp
 · intro k i hk
   by_cases h:i=j
   · rw [if_pos h]
     rcases zi x k with ⟨h,E,sz,xs,e⟩ | ⟨h,_⟩
     · rw [e];exact np
     · rw [h];exact o6
   · rw [if_neg h];exact o6
def rz (x:LRule) (j:Nat):List PV:=[.val (tx x.name),.own (DN 9 j)]
def tl (x:LRule) (k:Nat):MObj:=if k=9 then .row 9 1 (x.words.map tx) else .dead
theorem wd (x:LRule) (k:Nat):((k=9)∧∃ E sz xs,tl x k=.row E sz xs)∨tl x k=.dead∧¬ (k=9):=by
 by_cases h:k=9
 · refine .inl ⟨h,?_⟩
   unfold tl
   subst h;simp
 · refine .inr ⟨?_,h⟩
   unfold tl
   skip
   simp [h]
theorem J3 (x:LRule) (j:Nat) {S:Nat→Bool} (h:∀ k,(k=9)→S (DN k j)=true):(PV.agg (rz x j)).onT S:=by
 refine s8 fun p hp=>?_
 simp only [rz,List.mem_cons,List.not_mem_nil,or_false] at hp
 rcases hp with rfl | rfl
 · exact mv
 · exact lp (h _ (by simp))
theorem Xt (x:LRule) (j:Nat) (hx:oy 1048576 x):mg Tryz.prog 119 [.val (bk x)] (fun _=>.dead) (fun _=>false) (.agg (rz x j)) (dyn fun k i=>if i=j then tl x k else .dead):=by
 refine ou mixed ok119 (fun i h=>by cases h) (fun i h=>by cases h) ?_
 unfold ir119
 rw [aa]
 unfold oy at hx
 obtain ⟨b0,b1⟩:=hx
 simp [bk,tx,num]
 refine uu (rs:=[.list 1 (x.words.map tx)]) (fun k' i'=>k' == 9 && i' == j) rfl (Ae x.words 9 j (by omega) b1) ?_ ?_ ?_
 · intro k i hk hl
   by_cases h:k=9∧i=j
   · rw [if_pos h]
     exact ⟨by simp [h],np,fun cs h=>by cases h⟩
   · rw [if_neg h] at hl;cases hl
 · exact lp (by simp)
 simp [bk,tx,num]
 refine B7 _ ?_ ?_ ?_ ?_
 · simp [rz,tl,bk,tx,num,nl,wa]
 · intro k i hk hl
   by_cases h:i=j
   · subst h
     rw [if_pos rfl] at hl ⊢
     rcases wd x k with ⟨h,E,sz,xs,e⟩ | ⟨h,_⟩
     · subst h<;>simp [rz,tl]
     · rw [h] at hl;cases hl
   · rw [if_neg h] at hl;cases hl
 · exact J3 x j fun k _=>by simp
 · intro k i hk
   by_cases h:i=j
   · rw [if_pos h]
     rcases wd x k with ⟨h,E,sz,xs,e⟩ | ⟨h,_⟩
     · rw [e];exact np
     · rw [h];exact o6
   · rw [if_neg h];exact o6
def qx (x:LWire) (j:Nat):List PV:=[.val (num x.at_),.val (num x.status),.val (tx x.group),.val (tx x.url),.own (DN 10 j),.val (tx x.body),.val (.bool x.lost)]
def rn (x:LWire) (k:Nat):MObj:=if k=10 then .row 3 1 (x.ids.map num) else .dead
theorem wc (x:LWire) (k:Nat):((k=10)∧∃ E sz xs,rn x k=.row E sz xs)∨rn x k=.dead∧¬ (k=10):=by
 by_cases h:k=10
 · refine .inl ⟨h,?_⟩
   unfold rn
   subst h;simp
 · refine .inr ⟨?_,h⟩
   unfold rn
   skip
   simp [h]
theorem J2 (x:LWire) (j:Nat) {S:Nat→Bool} (h:∀ k,(k=10)→S (DN k j)=true):(PV.agg (qx x j)).onT S:=by
 refine s8 fun p hp=>?_
 simp only [qx,List.mem_cons,List.not_mem_nil,or_false] at hp
 rcases hp with rfl | rfl | rfl | rfl | rfl | rfl | rfl
 · exact mv
 · exact mv
 · exact mv
 · exact mv
 · exact lp (h _ (by simp))
 · exact mv
 · exact mv
theorem Xs (x:LWire) (j:Nat) (hx:ph 1048576 x):mg Tryz.prog 79 [.val (ja x)] (fun _=>.dead) (fun _=>false) (.agg (qx x j)) (dyn fun k i=>if i=j then rn x k else .dead):=by
 refine ou mixed ok79 (fun i h=>by cases h) (fun i h=>by cases h) ?_
 unfold ir79
 rw [aa]
 unfold ph at hx
 obtain ⟨b0,b1,b2,b3⟩:=hx
 simp [ja,tx,num]
 refine uu (rs:=[.list 1 (x.ids.map num)]) (fun k' i'=>k' == 10 && i' == j) rfl (Xu x.ids 10 j (by omega) b2) ?_ ?_ ?_
 · intro k i hk hl
   by_cases h:k=10∧i=j
   · rw [if_pos h]
     exact ⟨by simp [h],np,fun cs h=>by cases h⟩
   · rw [if_neg h] at hl;cases hl
 · exact lp (by simp)
 simp [ja,tx,num]
 refine B7 _ ?_ ?_ ?_ ?_
 · simp [qx,rn,ja,tx,num,nl,wa]
 · intro k i hk hl
   by_cases h:i=j
   · subst h
     rw [if_pos rfl] at hl ⊢
     rcases wc x k with ⟨h,E,sz,xs,e⟩ | ⟨h,_⟩
     · subst h<;>simp [qx,rn]
     · rw [h] at hl;cases hl
   · rw [if_neg h] at hl;cases hl
 · exact J2 x j fun k _=>by simp
 · intro k i hk
   by_cases h:i=j
   · rw [if_pos h]
     rcases wc x k with ⟨h,E,sz,xs,e⟩ | ⟨h,_⟩
     · rw [e];exact np
     · rw [h];exact o6
   · rw [if_neg h];exact o6
def my (x:LChannel) (j:Nat):List PV:=[.val (tx x.group.name),.val (num x.group.age),.own (DN 5 j),.own (DN 6 j),.own (DN 7 j),.own (DN 8 j)]
def ni (x:LChannel) (k:Nat):MObj:=if k=5 then .row 162 3 (x.group.targets.map al) else if k=6 then .row 164 6 (x.peers.map ig) else if k=7 then .row 146 4 (x.queue.items.map aq) else if k=8 then .row 9 1 (x.queue.recent.map tx) else .dead
theorem sx (x:LChannel) (k:Nat):((k=5∨k=6∨k=7∨k=8)∧∃ E sz xs,ni x k=.row E sz xs)∨ni x k=.dead∧¬ (k=5∨k=6∨k=7∨k=8):=by
 by_cases h:k=5∨k=6∨k=7∨k=8
 · refine .inl ⟨h,?_⟩
   unfold ni
   rcases h with rfl | rfl | rfl | rfl<;>simp
 · refine .inr ⟨?_,h⟩
   unfold ni
   simp only [not_or] at h
   simp [h]
theorem Dg (x:LChannel) (j:Nat) {S:Nat→Bool} (h:∀ k,(k=5∨k=6∨k=7∨k=8)→S (DN k j)=true):(PV.agg (my x j)).onT S:=by
 refine s8 fun p hp=>?_
 simp only [my,List.mem_cons,List.not_mem_nil,or_false] at hp
 rcases hp with rfl | rfl | rfl | rfl | rfl | rfl
 · exact mv
 · exact mv
 · exact lp (h _ (by simp))
 · exact lp (h _ (by simp))
 · exact lp (h _ (by simp))
 · exact lp (h _ (by simp))
theorem Ot (x:LChannel) (j:Nat) (hx:md 1048576 x):mg Tryz.prog 75 [.val (aw x)] (fun _=>.dead) (fun _=>false) (.agg (my x j)) (dyn fun k i=>if i=j then ni x k else .dead):=by
 refine ou mixed ok75 (fun i h=>by cases h) (fun i h=>by cases h) ?_
 unfold ir75
 rw [aa]
 unfold md at hx
 obtain ⟨b0,b1,b2⟩:=hx
 simp [ki,j8,aw,tx,num]
 refine uu (rs:=[ki x.group]) (fun k' i'=>(k' == 5) && i' == j) rfl (Uy x.group j b0) ?_ ?_ ?_
 · intro k' i' hk hl
   by_cases h:i'=j
   · subst h
     rw [if_pos rfl] at hl ⊢
     rcases zj x.group k' with ⟨h,E,sz,xs,e⟩ | ⟨h,_⟩
     · rw [e];exact ⟨by subst h;simp,np,fun cs h=>by cases h⟩
     · rw [h] at hl;cases hl
   · rw [if_neg h] at hl;cases hl
 · refine Ie x.group j fun k hk=>?_
   subst hk;simp
 simp [ki,j8,aw,vd,ti,vc,th,tx,num]
 refine uu (rs:=[.list 6 (x.peers.map ig)]) (fun k' i'=>k' == 6 && i' == j) rfl (Ux x.peers 6 j (by omega) b1) ?_ ?_ ?_
 · intro k i hk hl
   by_cases h:k=6∧i=j
   · rw [if_pos h]
     exact ⟨by simp [h],np,fun cs h=>by cases h⟩
   · rw [if_neg h] at hl;cases hl
 · exact lp (by simp)
 simp [ki,j8,aw,vd,ti,vc,th,tx,num]
 refine uu (rs:=[j8 x.queue]) (fun k' i'=>(k' == 7 || k' == 8) && i' == j) rfl (Uw x.queue j b2) ?_ ?_ ?_
 · intro k' i' hk hl
   by_cases h:i'=j
   · subst h
     rw [if_pos rfl] at hl ⊢
     rcases zi x.queue k' with ⟨h,E,sz,xs,e⟩ | ⟨h,_⟩
     · rw [e];exact ⟨by rcases h with rfl | rfl<;>simp,np,fun cs h=>by cases h⟩
     · rw [h] at hl;cases hl
   · rw [if_neg h] at hl;cases hl
 · refine Id x.queue j fun k hk=>?_
   rcases hk with rfl | rfl<;>simp
 simp [ki,j8,aw,vd,ti,vc,th,tx,num]
 refine B7 _ ?_ ?_ ?_ ?_
 · simp [vd,ti,vc,th,my,ni,ki,j8,aw,tx,num,nl,wa]
 · intro k i hk hl
   by_cases h:i=j
   · subst h
     rw [if_pos rfl] at hl ⊢
     rcases sx x k with ⟨h,E,sz,xs,e⟩ | ⟨h,_⟩
     · rcases h with rfl | rfl | rfl | rfl<;>simp [vd,ti,vc,th,my,ni]
     · rw [h] at hl;cases hl
   · rw [if_neg h] at hl;cases hl
 · exact Dg x j fun k _=>by simp
 · intro k i hk
   by_cases h:i=j
   · rw [if_pos h]
     rcases sx x k with ⟨h,E,sz,xs,e⟩ | ⟨h,_⟩
     · rw [e];exact np
     · rw [h];exact o6
   · rw [if_neg h];exact o6
def mz (l:List LChannel) (j k:Nat):PV:=match l[j]? with
 | some x=>(my x j).getD k .undef
 | none=>.undef
def nw (l:List LChannel):MObj:=.prow 120 6 l.length (mz l)
def l9 (l:List LChannel) (k j:Nat):MObj:=match l[j]? with
 | some x=>ni x k
 | none=>.dead
theorem L2 (x:LChannel) (j k:Nat):(∃ r,(my x j).getD k .undef=.val r)∨(my x j).getD k .undef=.undef∨(∃ k',(k'=5∨k'=6∨k'=7∨k'=8)∧(my x j).getD k .undef=.own (DN k' j)):=by
 unfold my
 by_cases h:k < 6
 · have:k=0∨k=1∨k=2∨k=3∨k=4∨k=5:=by omega
   rcases this with rfl | rfl | rfl | rfl | rfl | rfl<;>simp
 · rw [List.getD_eq_getElem?_getD,List.getElem?_eq_none (by simp;omega)]
   exact .inr (.inl rfl)
theorem Bf (l:List LChannel) (j k:Nat):(∃ r,mz l j k=.val r)∨mz l j k=.undef∨(∃ k',(k'=5∨k'=6∨k'=7∨k'=8)∧mz l j k=.own (DN k' j)):=by
 unfold mz
 cases l[j]? with
 | none=>exact .inr (.inl rfl)
 | some x=>exact L2 x j k
theorem Fq (l:List LChannel) (j k:Nat) (d:Nat→Bool) (h:∀ k',(k'=5∨k'=6∨k'=7∨k'=8)→d (DN k' j)=false):(mz l j k).kill d=mz l j k:=by
 rcases Bf l j k with ⟨r,e⟩ | e | ⟨k',hk,e⟩<;>rw [e]<;>simp only [PV.kill]
 rw [h k' hk];rfl
theorem va (l:List LChannel) (k j:Nat):((k=5∨k=6∨k=7∨k=8)∧j < l.length∧∃ E sz xs,l9 l k j=.row E sz xs)∨l9 l k j=.dead:=by
 unfold l9
 by_cases h:j < l.length
 · rw [List.getElem?_eq_getElem h]
   rcases sx l[j] k with ⟨h',e⟩ | ⟨h,_⟩
   · exact .inl ⟨h',h,e⟩
   · exact .inr h
 · rw [List.getElem?_eq_none (by omega)];exact .inr rfl
theorem Hv (l:List LChannel) (k j:Nat) (d:Nat→Bool):(l9 l k j).kill d=l9 l k j:=by
 rcases va l k j with ⟨_,_,E,sz,xs,e⟩ | e<;>rw [e]<;>rfl
theorem Cy (l:List LChannel) {S:Nat→Bool} (h:∀ k j,(k=5∨k=6∨k=7∨k=8)→S (DN k j)=true):(nw l).onT S:=by
 refine Gv fun j k=>?_
 rcases Bf l j k with ⟨r,e⟩ | e | ⟨k',hk,e⟩
 · exact .inl ⟨r,e⟩
 · exact .inr (.inl e)
 · exact .inr (.inr (.inr ⟨_,e,h k' j hk⟩))
def lu (l:List LChannel) (k i:Nat):MObj:=if k=0∧i=0 then nw l else l9 l k i
theorem sg (l:List LChannel) (k i:Nat) {S:Nat→Bool} (hS:∀ k j,(k=5∨k=6∨k=7∨k=8)→S (DN k j)=true) (h:(lu l k i).live=true):((k == 5 || k == 6 || k == 7 || k == 8) || (k == 0 && i == 0))=true∧(lu l k i).onT S∧∀ cs,lu l k i≠.box cs:=by
 unfold lu at h ⊢
 by_cases h0:k=0∧i=0
 · rw [if_pos h0]
   exact ⟨by simp [h0],Cy l hS,fun cs h=>by cases h⟩
 · rw [if_neg h0] at h ⊢
   rcases va l k i with ⟨h',_,E,sz,xs,e⟩ | e
   · rw [e]
     refine ⟨?_,np,fun cs h=>by cases h⟩
     rcases h' with rfl | rfl | rfl | rfl<;>simp
   · rw [e] at h;cases h
theorem yj (l:List LChannel) (k i:Nat) {S:Nat→Bool} (hS:∀ k j,(k=5∨k=6∨k=7∨k=8)→S (DN k j)=true):(lu l k i).onT S:=by
 cases hl:(lu l k i).live with
 | true=>exact (sg l k i hS hl).2.1
 | false=>cases hm:lu l k i<;>rw [hm] at hl<;>first | exact o6 | cases hl
theorem uc (l:List LChannel) (k i:Nat) (d:Nat→Bool) (h:∀ k j,(k=5∨k=6∨k=7∨k=8)→d (DN k j)=false):(lu l k i).kill d=lu l k i:=
 (yj l k i (S:=fun x=>!d x) fun k j hk=>by simp [h k j hk]).2 d fun x hx=>by simpa using hx
theorem Lu (l:List LChannel) (hx:bdS 1048576 (md 1048576) l):mg Tryz.prog 37 [.val (.list 6 (l.map aw))] (fun _=>.dead) (fun _=>false) (.own (DN 0 0)) (dyn (lu l)):=by
 refine ou mixed okp37 (fun i h=>by cases h) (fun i h=>by cases h) ?_
 unfold irp37
 rw [aa]
 have hl:l.length≤1048576:=hx.1
 simp [num,im]
 refine ⟨by omega,by omega,?_⟩
 refine ay (X:=Nat) (fun i=>⟨co [(0,.val (.list 6 (l.map aw))),(3,.own 7),(4,.val (num i))],C0 [(7,.prow 120 6 l.length fun j k=>if j < i then mz l j k else .undef)] (fun k j=>if j < i then l9 l k j else .dead)⟩) (fun i=>i≤l.length) (fun i=>l.length - i) 0 (Le.mkDN _ _ _ ?_ ?_ ?_) (Nat.zero_le _) ?_
 · simp [upd,num,PV.kill]
 · intro kp hkp
   rw [List.mem_singleton.1 hkp]
   simp [upd]
   refine .rowp _ _ _ _ _ (by simp) fun j k hj hk=>?_
   exact .undef _
 · intro k j hk
   simp
   exact .dead _
 · intro i hi
   simp [num,cp,en]
   refine ak (fun h1=>?_) (fun h1=>?_)
   · obtain ⟨x,hxe⟩:∃ x,l[i]=x:=⟨_,rfl⟩
     have he:l[i]?=some x:=by rw [List.getElem?_eq_getElem h1,hxe]
     have hbx:md 1048576 x:=by rw [← hxe];exact hx.2 _ (List.getElem_mem h1)
     simp [num,h1,he,hxe,cp,en,aw]
     refine uu (rs:=[aw x]) (fun k' i'=>(k' == 5 || k' == 6 || k' == 7 || k' == 8) && i' == i) rfl (Ot x i hbx) ?_ ?_ ?_
     · intro k' i' hk hl
       by_cases h:i'=i
       · subst h
         rw [if_pos rfl] at hl ⊢
         rcases sx x k' with ⟨h,E,sz,xs,e⟩ | ⟨h,_⟩
         · rw [e];exact ⟨by rcases h with rfl | rfl | rfl | rfl<;>simp,np,fun cs h=>by cases h⟩
         · rw [h] at hl;cases hl
       · rw [if_neg h] at hl;cases hl
     · refine Dg x i fun k h=>?_
       rcases h with rfl | rfl | rfl | rfl<;>simp
     simp [num,tx,h1,he,cp,en,my,ni]
     refine LoopNext.mk (i+1) h1 (by omega) (Le.mkDN _ _ _ ?_ ?_ ?_)
     · simp [num]
       exact wrap_i64 (by omega) (by omega)
     · intro kp hkp
       rw [List.mem_singleton.1 hkp]
       simp [cp,en]
       refine .prow _ _ _ _ _ fun j k hj hk=>?_
       by_cases hji:j=i
       · subst hji
         have e:mz l j k=(my x j).getD k .undef:=by unfold mz;rw [he]
         rw [if_pos ⟨rfl,hk⟩,if_pos (by omega),e]
         exact .refl _
       · rw [if_neg (fun h=>hji h.1)]
         by_cases hj2:j < i
         · rw [if_pos hj2,if_pos (by omega),Fq]
           · exact .refl _
           · intro k h
             rcases h with rfl | rfl | rfl | rfl<;>simp [hji]
         · rw [if_neg (by omega),if_neg (by omega)];exact .undef _
     · intro k j hk
       by_cases hji:j=i
       · subst hji
         have e:l9 l k j=ni x k:=by unfold l9;rw [he]
         simp [hk,cp,en]
         rw [e]
         rcases sx x k with ⟨h,E,sz,xs,e⟩ | ⟨h,_⟩
         · rcases h with rfl | rfl | rfl | rfl<;>simp [ni]<;>exact .refl _
         · rw [h];exact .dead _
       · simp [hk,cp,en,hji]
         by_cases hj2:j < i
         · rw [if_pos hj2,if_pos (by omega),Hv];exact .refl _
         · rw [if_neg (by omega),if_neg (by omega)];exact .dead _
   · have e:i=l.length:=by omega
     subst e
     simp [num,cp,en]
     refine Rf [(DN 0 0,7,nw l)] (fun k j=>l9 l k j) ?_ ?_ ?_ ?_ ?_ ?_
     · intro k j hk
       simp [yh,lu,hk]
     · simp [ioL,PV.ren,nl,wa]
     · intro e he
       rw [List.mem_singleton.1 he]
       refine ⟨by simp,by simp,?_⟩
       have:(nw l).ren (ioL [(DN 0 0,7,nw l)])=nw l:=(Cy l (S:=TD (fun k i=>(k == 5 || k == 6 || k == 7 || k == 8))) fun k j h=>by rcases h with rfl | rfl | rfl | rfl<;>simp).1 _ fun x hx=>by
        refine Lk fun e he=>?_
        rw [List.mem_singleton.1 he]
        rintro rfl
        simp at hx
       rw [this]
       simp [cp,en,nw]
       funext j k
       by_cases hj:j < l.length
       · rw [if_pos hj]
       · rw [if_neg hj];unfold mz;rw [List.getElem?_eq_none (by omega)]
     · simp
     · intro e he
       rw [List.mem_singleton.1 he];simp
     · intro k j hk hl _
       rcases va l k j with ⟨_,hj,E,sz,xs,e⟩ | e
       · simp [cp,en,hk,hj]
         rw [e];rfl
       · rw [e] at hl;cases hl
def pw (l:List LRule) (j k:Nat):PV:=match l[j]? with
 | some x=>(rz x j).getD k .undef
 | none=>.undef
def qi (l:List LRule):MObj:=.prow 154 2 l.length (pw l)
def ru (l:List LRule) (k j:Nat):MObj:=match l[j]? with
 | some x=>tl x k
 | none=>.dead
theorem Vb (x:LRule) (j k:Nat):(∃ r,(rz x j).getD k .undef=.val r)∨(rz x j).getD k .undef=.undef∨(∃ k',(k'=9)∧(rz x j).getD k .undef=.own (DN k' j)):=by
 unfold rz
 by_cases h:k < 2
 · have:k=0∨k=1:=by omega
   rcases this with rfl | rfl<;>simp
 · rw [List.getD_eq_getElem?_getD,List.getElem?_eq_none (by simp;omega)]
   exact .inr (.inl rfl)
theorem Gz (l:List LRule) (j k:Nat):(∃ r,pw l j k=.val r)∨pw l j k=.undef∨(∃ k',(k'=9)∧pw l j k=.own (DN k' j)):=by
 unfold pw
 cases l[j]? with
 | none=>exact .inr (.inl rfl)
 | some x=>exact Vb x j k
theorem Ku (l:List LRule) (j k:Nat) (d:Nat→Bool) (h:∀ k',(k'=9)→d (DN k' j)=false):(pw l j k).kill d=pw l j k:=by
 rcases Gz l j k with ⟨r,e⟩ | e | ⟨k',hk,e⟩<;>rw [e]<;>simp only [PV.kill]
 rw [h k' hk];rfl
theorem yp (l:List LRule) (k j:Nat):((k=9)∧j < l.length∧∃ E sz xs,ru l k j=.row E sz xs)∨ru l k j=.dead:=by
 unfold ru
 by_cases h:j < l.length
 · rw [List.getElem?_eq_getElem h]
   rcases wd l[j] k with ⟨h',e⟩ | ⟨h,_⟩
   · exact .inl ⟨h',h,e⟩
   · exact .inr h
 · rw [List.getElem?_eq_none (by omega)];exact .inr rfl
theorem Oj (l:List LRule) (k j:Nat) (d:Nat→Bool):(ru l k j).kill d=ru l k j:=by
 rcases yp l k j with ⟨_,_,E,sz,xs,e⟩ | e<;>rw [e]<;>rfl
theorem Jn (l:List LRule) {S:Nat→Bool} (h:∀ k j,(k=9)→S (DN k j)=true):(qi l).onT S:=by
 refine Gv fun j k=>?_
 rcases Gz l j k with ⟨r,e⟩ | e | ⟨k',hk,e⟩
 · exact .inl ⟨r,e⟩
 · exact .inr (.inl e)
 · exact .inr (.inr (.inr ⟨_,e,h k' j hk⟩))
def nv (l:List LRule) (k i:Nat):MObj:=if k=2∧i=0 then qi l else ru l k i
theorem x4 (l:List LRule) (k i:Nat) {S:Nat→Bool} (hS:∀ k j,(k=9)→S (DN k j)=true) (h:(nv l k i).live=true):((k == 9) || (k == 2 && i == 0))=true∧(nv l k i).onT S∧∀ cs,nv l k i≠.box cs:=by
 unfold nv at h ⊢
 by_cases h0:k=2∧i=0
 · rw [if_pos h0]
   exact ⟨by simp [h0],Jn l hS,fun cs h=>by cases h⟩
 · rw [if_neg h0] at h ⊢
   rcases yp l k i with ⟨h',_,E,sz,xs,e⟩ | e
   · rw [e]
     refine ⟨?_,np,fun cs h=>by cases h⟩
     subst h';simp
   · rw [e] at h;cases h
theorem Tl (l:List LRule) (k i:Nat) {S:Nat→Bool} (hS:∀ k j,(k=9)→S (DN k j)=true):(nv l k i).onT S:=by
 cases hl:(nv l k i).live with
 | true=>exact (x4 l k i hS hl).2.1
 | false=>cases hm:nv l k i<;>rw [hm] at hl<;>first | exact o6 | cases hl
theorem Na (l:List LRule) (k i:Nat) (d:Nat→Bool) (h:∀ k j,(k=9)→d (DN k j)=false):(nv l k i).kill d=nv l k i:=
 (Tl l k i (S:=fun x=>!d x) fun k j hk=>by simp [h k j hk]).2 d fun x hx=>by simpa using hx
theorem Uv (l:List LRule) (hx:bdS 1048576 (oy 1048576) l):mg Tryz.prog 77 [.val (.list 2 (l.map bk))] (fun _=>.dead) (fun _=>false) (.own (DN 2 0)) (dyn (nv l)):=by
 refine ou mixed okp77 (fun i h=>by cases h) (fun i h=>by cases h) ?_
 unfold irp77
 rw [aa]
 have hl:l.length≤1048576:=hx.1
 simp [num,im]
 refine ⟨by omega,by omega,?_⟩
 refine ay (X:=Nat) (fun i=>⟨co [(0,.val (.list 2 (l.map bk))),(3,.own 7),(4,.val (num i))],C0 [(7,.prow 154 2 l.length fun j k=>if j < i then pw l j k else .undef)] (fun k j=>if j < i then ru l k j else .dead)⟩) (fun i=>i≤l.length) (fun i=>l.length - i) 0 (Le.mkDN _ _ _ ?_ ?_ ?_) (Nat.zero_le _) ?_
 · simp [upd,num,PV.kill]
 · intro kp hkp
   rw [List.mem_singleton.1 hkp]
   simp [upd]
   refine .rowp _ _ _ _ _ (by simp) fun j k hj hk=>?_
   exact .undef _
 · intro k j hk
   simp
   exact .dead _
 · intro i hi
   simp [num,cp,en]
   refine ak (fun h1=>?_) (fun h1=>?_)
   · obtain ⟨x,hxe⟩:∃ x,l[i]=x:=⟨_,rfl⟩
     have he:l[i]?=some x:=by rw [List.getElem?_eq_getElem h1,hxe]
     have hbx:oy 1048576 x:=by rw [← hxe];exact hx.2 _ (List.getElem_mem h1)
     simp [num,h1,he,hxe,cp,en,bk]
     refine uu (rs:=[bk x]) (fun k' i'=>(k' == 9) && i' == i) rfl (Xt x i hbx) ?_ ?_ ?_
     · intro k' i' hk hl
       by_cases h:i'=i
       · subst h
         rw [if_pos rfl] at hl ⊢
         rcases wd x k' with ⟨h,E,sz,xs,e⟩ | ⟨h,_⟩
         · rw [e];exact ⟨by subst h;simp,np,fun cs h=>by cases h⟩
         · rw [h] at hl;cases hl
       · rw [if_neg h] at hl;cases hl
     · refine J3 x i fun k h=>?_
       subst h;simp
     simp [num,tx,h1,he,cp,en,rz,tl]
     refine LoopNext.mk (i+1) h1 (by omega) (Le.mkDN _ _ _ ?_ ?_ ?_)
     · simp [num]
       exact wrap_i64 (by omega) (by omega)
     · intro kp hkp
       rw [List.mem_singleton.1 hkp]
       simp [cp,en]
       refine .prow _ _ _ _ _ fun j k hj hk=>?_
       by_cases hji:j=i
       · subst hji
         have e:pw l j k=(rz x j).getD k .undef:=by unfold pw;rw [he]
         rw [if_pos ⟨rfl,hk⟩,if_pos (by omega),e]
         exact .refl _
       · rw [if_neg (fun h=>hji h.1)]
         by_cases hj2:j < i
         · rw [if_pos hj2,if_pos (by omega),Ku]
           · exact .refl _
           · intro k h
             subst h;simp [hji]
         · rw [if_neg (by omega),if_neg (by omega)];exact .undef _
     · intro k j hk
       by_cases hji:j=i
       · subst hji
         have e:ru l k j=tl x k:=by unfold ru;rw [he]
         simp [hk,cp,en]
         rw [e]
         rcases wd x k with ⟨h,E,sz,xs,e⟩ | ⟨h,_⟩
         · subst h;simp [tl]<;>exact .refl _
         · rw [h];exact .dead _
       · simp [hk,cp,en,hji]
         by_cases hj2:j < i
         · rw [if_pos hj2,if_pos (by omega),Oj];exact .refl _
         · rw [if_neg (by omega),if_neg (by omega)];exact .dead _
   · have e:i=l.length:=by omega
     subst e
     simp [num,cp,en]
     refine Rf [(DN 2 0,7,qi l)] (fun k j=>ru l k j) ?_ ?_ ?_ ?_ ?_ ?_
     · intro k j hk
       simp [yh,nv,hk]
     · simp [ioL,PV.ren,nl,wa]
     · intro e he
       rw [List.mem_singleton.1 he]
       refine ⟨by simp,by simp,?_⟩
       have:(qi l).ren (ioL [(DN 2 0,7,qi l)])=qi l:=(Jn l (S:=TD (fun k i=>(k == 9))) fun k j h=>by subst h;simp).1 _ fun x hx=>by
        refine Lk fun e he=>?_
        rw [List.mem_singleton.1 he]
        rintro rfl
        simp at hx
       rw [this]
       simp [cp,en,qi]
       funext j k
       by_cases hj:j < l.length
       · rw [if_pos hj]
       · rw [if_neg hj];unfold pw;rw [List.getElem?_eq_none (by omega)]
     · simp
     · intro e he
       rw [List.mem_singleton.1 he];simp
     · intro k j hk hl _
       rcases yp l k j with ⟨_,hj,E,sz,xs,e⟩ | e
       · simp [cp,en,hk,hj]
         rw [e];rfl
       · rw [e] at hl;cases hl
def pu (l:List LWire) (j k:Nat):PV:=match l[j]? with
 | some x=>(qx x j).getD k .undef
 | none=>.undef
def tm (l:List LWire):MObj:=.prow 77 7 l.length (pu l)
def rr (l:List LWire) (k j:Nat):MObj:=match l[j]? with
 | some x=>rn x k
 | none=>.dead
theorem Va (x:LWire) (j k:Nat):(∃ r,(qx x j).getD k .undef=.val r)∨(qx x j).getD k .undef=.undef∨(∃ k',(k'=10)∧(qx x j).getD k .undef=.own (DN k' j)):=by
 unfold qx
 by_cases h:k < 7
 · have:k=0∨k=1∨k=2∨k=3∨k=4∨k=5∨k=6:=by omega
   rcases this with rfl | rfl | rfl | rfl | rfl | rfl | rfl<;>simp
 · rw [List.getD_eq_getElem?_getD,List.getElem?_eq_none (by simp;omega)]
   exact .inr (.inl rfl)
theorem Gy (l:List LWire) (j k:Nat):(∃ r,pu l j k=.val r)∨pu l j k=.undef∨(∃ k',(k'=10)∧pu l j k=.own (DN k' j)):=by
 unfold pu
 cases l[j]? with
 | none=>exact .inr (.inl rfl)
 | some x=>exact Va x j k
theorem Kt (l:List LWire) (j k:Nat) (d:Nat→Bool) (h:∀ k',(k'=10)→d (DN k' j)=false):(pu l j k).kill d=pu l j k:=by
 rcases Gy l j k with ⟨r,e⟩ | e | ⟨k',hk,e⟩<;>rw [e]<;>simp only [PV.kill]
 rw [h k' hk];rfl
theorem yo (l:List LWire) (k j:Nat):((k=10)∧j < l.length∧∃ E sz xs,rr l k j=.row E sz xs)∨rr l k j=.dead:=by
 unfold rr
 by_cases h:j < l.length
 · rw [List.getElem?_eq_getElem h]
   rcases wc l[j] k with ⟨h',e⟩ | ⟨h,_⟩
   · exact .inl ⟨h',h,e⟩
   · exact .inr h
 · rw [List.getElem?_eq_none (by omega)];exact .inr rfl
theorem Oi (l:List LWire) (k j:Nat) (d:Nat→Bool):(rr l k j).kill d=rr l k j:=by
 rcases yo l k j with ⟨_,_,E,sz,xs,e⟩ | e<;>rw [e]<;>rfl
theorem Jm (l:List LWire) {S:Nat→Bool} (h:∀ k j,(k=10)→S (DN k j)=true):(tm l).onT S:=by
 refine Gv fun j k=>?_
 rcases Gy l j k with ⟨r,e⟩ | e | ⟨k',hk,e⟩
 · exact .inl ⟨r,e⟩
 · exact .inr (.inl e)
 · exact .inr (.inr (.inr ⟨_,e,h k' j hk⟩))
def oo (l:List LWire) (k i:Nat):MObj:=if k=4∧i=0 then tm l else rr l k i
theorem Ax (l:List LWire) (k i:Nat) {S:Nat→Bool} (hS:∀ k j,(k=10)→S (DN k j)=true) (h:(oo l k i).live=true):((k == 10) || (k == 4 && i == 0))=true∧(oo l k i).onT S∧∀ cs,oo l k i≠.box cs:=by
 unfold oo at h ⊢
 by_cases h0:k=4∧i=0
 · rw [if_pos h0]
   exact ⟨by simp [h0],Jm l hS,fun cs h=>by cases h⟩
 · rw [if_neg h0] at h ⊢
   rcases yo l k i with ⟨h',_,E,sz,xs,e⟩ | e
   · rw [e]
     refine ⟨?_,np,fun cs h=>by cases h⟩
     subst h';simp
   · rw [e] at h;cases h
theorem Dw (l:List LWire) (k i:Nat) {S:Nat→Bool} (hS:∀ k j,(k=10)→S (DN k j)=true):(oo l k i).onT S:=by
 cases hl:(oo l k i).live with
 | true=>exact (Ax l k i hS hl).2.1
 | false=>cases hm:oo l k i<;>rw [hm] at hl<;>first | exact o6 | cases hl
theorem zm (l:List LWire) (k i:Nat) (d:Nat→Bool) (h:∀ k j,(k=10)→d (DN k j)=false):(oo l k i).kill d=oo l k i:=
 (Dw l k i (S:=fun x=>!d x) fun k j hk=>by simp [h k j hk]).2 d fun x hx=>by simpa using hx
theorem Uu (l:List LWire) (hx:bdS 1048576 (ph 1048576) l):mg Tryz.prog 40 [.val (.list 7 (l.map ja))] (fun _=>.dead) (fun _=>false) (.own (DN 4 0)) (dyn (oo l)):=by
 refine ou mixed okp40 (fun i h=>by cases h) (fun i h=>by cases h) ?_
 unfold irp40
 rw [aa]
 have hl:l.length≤1048576:=hx.1
 simp [num,im]
 refine ⟨by omega,by omega,?_⟩
 refine ay (X:=Nat) (fun i=>⟨co [(0,.val (.list 7 (l.map ja))),(3,.own 7),(4,.val (num i))],C0 [(7,.prow 77 7 l.length fun j k=>if j < i then pu l j k else .undef)] (fun k j=>if j < i then rr l k j else .dead)⟩) (fun i=>i≤l.length) (fun i=>l.length - i) 0 (Le.mkDN _ _ _ ?_ ?_ ?_) (Nat.zero_le _) ?_
 · simp [upd,num,PV.kill]
 · intro kp hkp
   rw [List.mem_singleton.1 hkp]
   simp [upd]
   refine .rowp _ _ _ _ _ (by simp) fun j k hj hk=>?_
   exact .undef _
 · intro k j hk
   simp
   exact .dead _
 · intro i hi
   simp [num,cp,en]
   refine ak (fun h1=>?_) (fun h1=>?_)
   · obtain ⟨x,hxe⟩:∃ x,l[i]=x:=⟨_,rfl⟩
     have he:l[i]?=some x:=by rw [List.getElem?_eq_getElem h1,hxe]
     have hbx:ph 1048576 x:=by rw [← hxe];exact hx.2 _ (List.getElem_mem h1)
     simp [num,h1,he,hxe,cp,en,ja]
     refine uu (rs:=[ja x]) (fun k' i'=>(k' == 10) && i' == i) rfl (Xs x i hbx) ?_ ?_ ?_
     · intro k' i' hk hl
       by_cases h:i'=i
       · subst h
         rw [if_pos rfl] at hl ⊢
         rcases wc x k' with ⟨h,E,sz,xs,e⟩ | ⟨h,_⟩
         · rw [e];exact ⟨by subst h;simp,np,fun cs h=>by cases h⟩
         · rw [h] at hl;cases hl
       · rw [if_neg h] at hl;cases hl
     · refine J2 x i fun k h=>?_
       subst h;simp
     simp [num,tx,h1,he,cp,en,qx,rn]
     refine LoopNext.mk (i+1) h1 (by omega) (Le.mkDN _ _ _ ?_ ?_ ?_)
     · simp [num]
       exact wrap_i64 (by omega) (by omega)
     · intro kp hkp
       rw [List.mem_singleton.1 hkp]
       simp [cp,en]
       refine .prow _ _ _ _ _ fun j k hj hk=>?_
       by_cases hji:j=i
       · subst hji
         have e:pu l j k=(qx x j).getD k .undef:=by unfold pu;rw [he]
         rw [if_pos ⟨rfl,hk⟩,if_pos (by omega),e]
         exact .refl _
       · rw [if_neg (fun h=>hji h.1)]
         by_cases hj2:j < i
         · rw [if_pos hj2,if_pos (by omega),Kt]
           · exact .refl _
           · intro k h
             subst h;simp [hji]
         · rw [if_neg (by omega),if_neg (by omega)];exact .undef _
     · intro k j hk
       by_cases hji:j=i
       · subst hji
         have e:rr l k j=rn x k:=by unfold rr;rw [he]
         simp [hk,cp,en]
         rw [e]
         rcases wc x k with ⟨h,E,sz,xs,e⟩ | ⟨h,_⟩
         · subst h;simp [rn]<;>exact .refl _
         · rw [h];exact .dead _
       · simp [hk,cp,en,hji]
         by_cases hj2:j < i
         · rw [if_pos hj2,if_pos (by omega),Oi];exact .refl _
         · rw [if_neg (by omega),if_neg (by omega)];exact .dead _
   · have e:i=l.length:=by omega
     subst e
     simp [num,cp,en]
     refine Rf [(DN 4 0,7,tm l)] (fun k j=>rr l k j) ?_ ?_ ?_ ?_ ?_ ?_
     · intro k j hk
       simp [yh,oo,hk]
     · simp [ioL,PV.ren,nl,wa]
     · intro e he
       rw [List.mem_singleton.1 he]
       refine ⟨by simp,by simp,?_⟩
       have:(tm l).ren (ioL [(DN 4 0,7,tm l)])=tm l:=(Jm l (S:=TD (fun k i=>(k == 10))) fun k j h=>by subst h;simp).1 _ fun x hx=>by
        refine Lk fun e he=>?_
        rw [List.mem_singleton.1 he]
        rintro rfl
        simp at hx
       rw [this]
       simp [cp,en,tm]
       funext j k
       by_cases hj:j < l.length
       · rw [if_pos hj]
       · rw [if_neg hj];unfold pu;rw [List.getElem?_eq_none (by omega)]
     · simp
     · intro e he
       rw [List.mem_singleton.1 he];simp
     · intro k j hk hl _
       rcases yo l k j with ⟨_,hj,E,sz,xs,e⟩ | e
       · simp [cp,en,hk,hj]
         rw [e];rfl
       · rw [e] at hl;cases hl
end Go.Proofs
end
section
namespace Go.Proofs
open Go.PW Go.KP
attribute [local simp] RV.cells RV.one PV.cells PV.solid PV.one im ao kh ke RV.ofCells elems PV.killL
variable [GF]
attribute [local simp] y6 Fn M4 M5 M3 Jo vp Hz B0 J5 Ek Ip Cm
def ul (p:LPolicy):List PV:=[.val (tx p.reportTo),.own (DN 1 0),.own (DN 2 0)]
def lr (p:LPolicy) (k i:Nat):MObj:=if k=1∧i=0 then .row 9 1 (p.uris.map tx) else nv p.rules k i
theorem w9 (p:LPolicy) (k i:Nat) {S:Nat→Bool} (hS:∀ k j,(k=9)→S (DN k j)=true) (h:(lr p k i).live=true):(k == 1 && i == 0 || k == 9 || k == 2 && i == 0)=true∧(lr p k i).onT S∧∀ cs,lr p k i≠.box cs:=by
 unfold lr at h ⊢
 by_cases h0:k=1∧i=0
 · rw [if_pos h0]
   exact ⟨by simp [h0],np,fun cs h=>by cases h⟩
 · rw [if_neg h0] at h ⊢
   obtain ⟨h1,h2,h3⟩:=x4 p.rules k i hS h
   refine ⟨?_,h2,h3⟩
   simp only [Bool.or_eq_true] at h1 ⊢
   rcases h1 with h1 | h1
   · exact .inl (.inr h1)
   · exact .inr h1
theorem w8 (p:LPolicy) (k i:Nat) {S:Nat→Bool} (hS:∀ k j,(k=9)→S (DN k j)=true):(lr p k i).onT S:=by
 cases hl:(lr p k i).live with
 | true=>exact (w9 p k i hS hl).2.1
 | false=>cases hm:lr p k i<;>rw [hm] at hl<;>first | exact o6 | cases hl
theorem u6 (p:LPolicy) (k i:Nat) (d:Nat→Bool) (h:∀ k j,(k=9)→d (DN k j)=false):(lr p k i).kill d=lr p k i:=
 (w8 p k i (S:=fun x=>!d x) fun k j hk=>by simp [h k j hk]).2 d fun x hx=>by simpa using hx
theorem Rj (p:LPolicy) (hx:p9 1048576 p):mg Tryz.prog 38 [.val (dn p)] (fun _=>.dead) (fun _=>false) (.agg (ul p)) (dyn (lr p)):=by
 refine ou mixed ok38 (fun i h=>by cases h) (fun i h=>by cases h) ?_
 unfold ir38
 rw [aa]
 obtain ⟨b0,b1,b2⟩:=hx
 simp [dn,tx,num]
 refine uu (rs:=[.list 1 (p.uris.map tx)]) (fun k i=>k == 1 && i == 0) rfl (Ae p.uris 1 0 (by omega) b1) ?_ ?_ ?_
 · intro k i hk hl
   by_cases h:k=1∧i=0
   · rw [if_pos h]
     exact ⟨by simp [h],np,fun cs h=>by cases h⟩
   · rw [if_neg h] at hl;cases hl
 · exact lp (by simp)
 simp [dn,tx,num]
 refine uu (rs:=[.list 2 (p.rules.map bk)]) (fun k i=>k == 9 || k == 2 && i == 0) rfl (Uv p.rules b2) (fun k i hk hl=>x4 p.rules k i (fun k j h=>by subst h;simp) hl) (lp (by simp)) ?_
 simp [dn,tx,num,nv,qi]
 refine B7 _ ?_ ?_ ?_ ?_
 · simp [ul,tx,num,nl,wa]
 · intro k i hk hl
   by_cases h1:k=1∧i=0
   · obtain ⟨rfl,rfl⟩:=h1;simp [lr]
   · have e:lr p k i=nv p.rules k i:=by unfold lr;rw [if_neg h1]
     rw [e] at hl ⊢
     have h2:=(x4 p.rules k i (S:=fun _=>true) (fun _ _ _=>rfl) hl).1
     simp at h2
     simp [hk,h2]
     try simp [nv,qi]
 · exact s8 fun q hq=>by
    simp only [ul,List.mem_cons,List.not_mem_nil,or_false] at hq
    rcases hq with rfl | rfl | rfl
    · exact mv
    · exact lp (by simp)
    · exact lp (by simp)
 · intro k i hk
   exact w8 p k i fun k j h=>by simp
def u5 (p:LPipe):List PV:=[.own (DN 0 0),.val (tx p.policy.reportTo),.own (DN 1 0),.own (DN 2 0),.val (num p.now),.val (num p.next),.own (DN 3 0),.own (DN 4 0)]
def mb (p:LPipe) (k i:Nat):MObj:=
 if k=3∧i=0 then .row 83 3 (p.log.map eo) else if k=1∧i=0∨k=2∧i=0∨k=9 then lr p.policy k i else if k=4∧i=0∨k=10 then oo p.wires k i else lu p.channels k i
def qe (k i:Nat):Bool:=decide (k < 5) && i == 0 || decide (5≤k) && decide (k < 11)
theorem Or (p:LPipe) (hx:pi 1048576 p):mg Tryz.prog 11 [.val (ik p)] (fun _=>.dead) (fun _=>false) (.agg (u5 p)) (dyn (mb p)):=by
 refine ou mixed ok11 (fun i h=>by cases h) (fun i h=>by cases h) ?_
 unfold ir11
 rw [aa]
 obtain ⟨b0,b1,b2,b3⟩:=hx
 simp [ik,tx,num]
 refine uu (rs:=[.list 6 (p.channels.map aw)]) (fun k i=>(k == 5 || k == 6 || k == 7 || k == 8) || k == 0 && i == 0) rfl (Lu p.channels b0) (fun k i hk hl=>sg p.channels k i (fun k j h=>by rcases h with rfl | rfl | rfl | rfl<;>simp) hl) (lp (by simp)) ?_
 simp [tx,num,lu,nw]
 refine uu (rs:=[dn p.policy]) (fun k i=>k == 1 && i == 0 || k == 9 || k == 2 && i == 0) rfl (Rj p.policy b1) (fun k i hk hl=>w9 p.policy k i (fun k j h=>by subst h;simp) hl) ?_ ?_
 · exact s8 fun q hq=>by
    simp only [ul,List.mem_cons,List.not_mem_nil,or_false] at hq
    rcases hq with rfl | rfl | rfl
    · exact mv
    · exact lp (by simp)
    · exact lp (by simp)
 simp [tx,num,lr,nv,qi,ul]
 refine uu (rs:=[.list 3 (p.log.map eo)]) (fun k i=>k == 3 && i == 0) rfl (Rk p.log 3 0 (by omega) b2) ?_ ?_ ?_
 · intro k i hk hl
   by_cases h:k=3∧i=0
   · rw [if_pos h]
     exact ⟨by simp [h],np,fun cs h=>by cases h⟩
   · rw [if_neg h] at hl;cases hl
 · exact lp (by simp)
 simp [tx,num]
 refine uu (rs:=[.list 7 (p.wires.map ja)]) (fun k i=>(k == 10) || k == 4 && i == 0) rfl (Uu p.wires b3) (fun k i hk hl=>Ax p.wires k i (fun k j h=>by subst h;simp) hl) (lp (by simp)) ?_
 simp [tx,num,oo,tm,lr,nv,qi,lu,nw]
 refine B7 _ ?_ ?_ ?_ ?_
 · simp [u5,tx,num,nl,wa]
 · intro k i hk hl
   have c1:∀ (k j:Nat),(k=5∨k=6∨k=7∨k=8)→nK (fun k i=>(k == 10) || k == 4 && i == 0) (DN k j)=false:=fun k j h=>by rcases h with rfl | rfl | rfl | rfl<;>simp
   have c2:∀ (k j:Nat),(k=5∨k=6∨k=7∨k=8)→nK (fun k i=>k == 3 && i == 0) (DN k j)=false:=fun k j h=>by rcases h with rfl | rfl | rfl | rfl<;>simp
   have c3:∀ (k j:Nat),(k=5∨k=6∨k=7∨k=8)→nK (fun k i=>k == 1 && i == 0 || k == 9 || k == 2 && i == 0) (DN k j)=false:=fun k j h=>by rcases h with rfl | rfl | rfl | rfl<;>simp
   have r1:∀ (k j:Nat),k=9→nK (fun k i=>(k == 10) || k == 4 && i == 0) (DN k j)=false:=fun k j h=>by subst h;simp
   have r2:∀ (k j:Nat),k=9→nK (fun k i=>k == 3 && i == 0) (DN k j)=false:=fun k j h=>by subst h;simp
   by_cases h1:k=3∧i=0
   · obtain ⟨rfl,rfl⟩:=h1;simp [mb]
   by_cases h2:k=1∧i=0∨k=2∧i=0∨k=9
   · have e:mb p k i=lr p.policy k i:=by unfold mb;rw [if_neg h1,if_pos h2]
     rw [e] at hl ⊢
     have h3:¬ (k=4∧i=0)∧¬ k=10∧¬ (k=3∧i=0):=by omega
     have h4:(k=1∧i=0∨k=9)∨k=2∧i=0:=by omega
     simp [hk,h3,h4]
     rw [u6 _ _ _ _ r2,u6 _ _ _ _ r1]
   by_cases h3:k=4∧i=0∨k=10
   · have e:mb p k i=oo p.wires k i:=by unfold mb;rw [if_neg h1,if_neg h2,if_pos h3]
     rw [e] at hl ⊢
     have h4:k=10∨k=4∧i=0:=by omega
     simp [hk,h4]
   · have e:mb p k i=lu p.channels k i:=by unfold mb;rw [if_neg h1,if_neg h2,if_neg h3]
     rw [e] at hl ⊢
     have h5:=(sg p.channels k i (S:=fun _=>true) (fun _ _ _=>rfl) hl).1
     simp at h5
     have h4:¬ (k=10∨k=4∧i=0):=by omega
     have h6:¬ ((k=1∧i=0∨k=9)∨k=2∧i=0):=by omega
     simp only [dz,ia,d8,gy,d9,ck,d7,gz,bm,ew,ir,iu,au,cf,cg,bf,eb,cj,bh,gx,dy,ci,ch,f9,ga,ql,qn,Option.getD_some,Option.getD_none,fo,cq,b9,f5,b8,bv,f8,bw,f7,fz,fy,iz,dl,b6,fw,dh,bz,fv,fl,fx,di,ft,bu,dg,fu,i7,i6,fm,fp,bx,fq,dm,b7,fa,bo,fk,fj,fi,iv,dc,bq,fg,da,bp,ff,ex,fh,db,fc,bn,cz,fe,ix,iw,ez,cx,bt,fb,de,br,jq,jp,j5,jr,jv,jt,js,j4,ju,jw,jx,jy,jz,eg,ef,ed,kj,kl,ek,ib,ct,ge,dq,j7,cl,l4,ko,kf,lb,ld,lc,l5,l6,ji,jk,jj,jl,jm,k8,dt,k7,gf,gg,gh,du,qp,gu,dx,l2,l3,i8,km,kn,Option.map_some,Option.map_none,gm,dv,dp,ca,gc,gd,jc,jb,lj,li,jo,gv,gw,jn,lf,lg,je,cd,jf,cb,ku,gt,gr,bg,la,lh,jh,ky,k6,kz,dr,eq,eu,er,ba,k9,l8,l7,kq,jg,ns,kr,ce,gp,gq,dw,gn,bd,cv,bc,cw,bb,j6,lk,ll,eh,ei,ie,ic,gb,ek,J5,Ek,Jo hk]
     simp [hk,h1,h4,h6,h5]
     rw [uc _ _ _ _ c3,uc _ _ _ _ c2,uc _ _ _ _ c1]
 · exact s8 fun q hq=>by
    simp only [u5,List.mem_cons,List.not_mem_nil,or_false] at hq
    rcases hq with rfl | rfl | rfl | rfl | rfl | rfl | rfl | rfl
    · exact lp (by simp)
    · exact mv
    · exact lp (by simp)
    · exact lp (by simp)
    · exact mv
    · exact mv
    · exact lp (by simp)
    · exact lp (by simp)
 · intro k i hk
   unfold mb
   split
   · exact np
   split
   · exact w8 p.policy k i fun k j h=>by simp
   split
   · exact Dw p.wires k i fun k j h=>by simp
   · exact yj p.channels k i fun k j h=>by simp
end Go.Proofs
end
section
namespace Go.Proofs
open Go.PW Go.KP
attribute [local simp] RV.cells RV.one PV.cells PV.solid PV.one im ao kh ke RV.ofCells elems PV.killL
variable [GF]
attribute [local simp] y6 Fn M4 M5 M3 Jo vp Hz B0 J5 Ek Ip Cm
theorem Ov (l:List LRule) (k:Nat) (hx:bdS 1048576 (oy 1048576) l) (hk:k+io o9 l < 8388608):mg Tryz.prog 99 [.own (DN 2 0),.val (num k)] (dyn (nv l)) (fun _=>false) (.val (num ((k+io o9 l:Nat):Int))) (fun _=>.dead):=by
 refine ou mixed okp99 (fun i h=>Aa h) (fun i h=>by cases h) ?_
 unfold irp99
 rw [aa]
 have hl:l.length≤1048576:=hx.1
 simp [num]
 refine ay (X:=Nat) (fun i=>⟨co [(0,.own (DN 2 0)),(1,.val (num ((k+io o9 (l.take i):Nat):Int))),(5,.val (num i))],C0 [] (fun k' j=>if k'=2∧j=0 then .prow 154 2 l.length (fun j k=>if i≤j then pw l j k else .undef) else if i≤j then ru l k' j else .dead)⟩) (fun i=>i≤l.length) (fun i=>l.length - i) 0 (Le.mkDN _ _ _ ?_ ?_ ?_) (Nat.zero_le _) ?_
 · simp [upd,num,PV.kill,io]
 · intro kp hkp;cases hkp
 · intro k' j hk'
   simp [hk',nv,qi]
   exact .refl _
 · intro i hi
   unfold irp99_l6
   by_cases h1:i < l.length
   · obtain ⟨x,hxe⟩:∃ x,l[i]=x:=⟨_,rfl⟩
     have he:l[i]?=some x:=by rw [List.getElem?_eq_getElem h1,hxe]
     have hbx:oy 1048576 x:=by rw [← hxe];exact hx.2 _ (List.getElem_mem h1)
     have ho:∀ k,pw l i k=(rz x i).getD k .undef:=fun k=>by unfold pw;rw [he]
     have hf:∀ k,ru l k i=tl x k:=fun k=>by unfold ru;rw [he]
     have hst:io o9 (l.take (i+1))=io o9 (l.take i)+o9 x:=by rw [q8 _ h1,hxe]
     have hle:=u7 (f:=o9) l (i+1)
     obtain ⟨m0,hm0⟩:∃ m,k+io o9 (l.take i)=m:=⟨_,rfl⟩
     have q1:x.words.length≤1048576:=hbx.2.1
     obtain ⟨m1,hm1⟩:∃ m,m0+1=m:=⟨_,rfl⟩
     obtain ⟨m2,hm2⟩:∃ m,m1+1*x.words.length=m:=⟨_,rfl⟩
     have hcx:o9 x=1+x.words.length:=rfl
     have hlast:k+io o9 (l.take (i+1))=m2:=by omega
     have s0:IntKind.i64.wrap ((m0:Int)+1)=(m1:Int):=by rw [wrap_i64 (by omega) (by omega)];omega
     have hk0:=qw m0 (by omega)
     have hk1:=xp x.words m1 (by omega) q1
     rw [hm2] at hk1
     rw [hm0]
     simp [num,tx,h1,ho,hf,cp,en,rz,tl,s0]
     refine ab rfl rfl (.inl rfl) hk0 ?_
     simp [num,tx,h1,ho,hf,cp,en,rz,tl,s0]
     refine Kd (by simp [PV.plain1]) rfl rfl rfl hk1 rfl ?_
     simp [num,tx,h1,ho,hf,cp,en,rz,tl,s0]
     refine LoopNext.mk (i+1) h1 (by omega) (Le.mkDN _ _ _ ?_ ?_ ?_)
     · simp only [hlast]
       simp [num,s0]
       exact wrap_i64 (by omega) (by omega)
     · intro kp hkp;cases hkp
     · intro k' j hk'
       by_cases h0:k'=2∧j=0
       · obtain ⟨rfl,rfl⟩:=h0
         simp [cp,en]
         refine .prow _ _ _ _ _ fun j k hj hk=>?_
         by_cases hji:j=i
         · rw [if_neg (show ¬ i+1≤j by omega)];exact .undef _
         · simp [hji]
           by_cases hj2:i≤j
           · rw [if_pos hj2,if_pos (by omega)];exact .refl _
           · rw [if_neg hj2,if_neg (by omega)];exact .undef _
       · rw [if_neg h0]
         by_cases hji:j=i
         · rw [if_neg (show ¬ i+1≤j by omega)];exact .dead _
         · simp [hk',cp,en,hji,h0]
           by_cases hj2:i≤j
           · rw [if_pos hj2,if_pos (by omega)];exact .refl _
           · rw [if_neg hj2,if_neg (by omega)];exact .refl _
   · have e:i=l.length:=by omega
     subst e
     simp [num,cp,en]
     refine Hr ?_
     simp [nl,wa]
theorem V4 {M:Nat→MObj} (l:List LRule) (h0:M (DN 2 0)=qi l) (h:∀ k j,k < 16→(ru l k j).live=true→M (DN k j)=ru l k j):Res M (.own (DN 2 0)) (.list 2 (l.map bk)):=by
 refine .prow _ _ _ _ (pw l) _ h0 (by simp) (fun x hx=>?_) fun j k hj hk=>?_
 · obtain ⟨y,_,rfl⟩:=List.mem_map.1 hx
   rfl
 have he:l[j]?=some l[j]:=List.getElem?_eq_getElem hj
 have e1:pw l j k=(rz l[j] j).getD k .undef:=by unfold pw;rw [he]
 have e2:(l.map bk).getD j .nilptr=bk l[j]:=by simp [List.getD_eq_getElem?_getD,he]
 rw [e1,e2]
 generalize l[j]=x at he ⊢
 have:k=0∨k=1:=by omega
 rcases this with rfl | rfl
 · exact .val _
 · exact .row _ 9 _ _ (by rw [h 9 j (by omega) (by unfold ru;rw [he];rfl)];unfold ru;rw [he];rfl)
theorem Ou (l:List LWire) (k:Nat) (hx:bdS 1048576 (ph 1048576) l) (hk:k+io qh l < 8388608):mg Tryz.prog 55 [.own (DN 4 0),.val (num k)] (dyn (oo l)) (fun _=>false) (.val (num ((k+io qh l:Nat):Int))) (fun _=>.dead):=by
 refine ou mixed okp55 (fun i h=>Aa h) (fun i h=>by cases h) ?_
 unfold irp55
 rw [aa]
 have hl:l.length≤1048576:=hx.1
 simp [num]
 refine ay (X:=Nat) (fun i=>⟨co [(0,.own (DN 4 0)),(1,.val (num ((k+io qh (l.take i):Nat):Int))),(5,.val (num i))],C0 [] (fun k' j=>if k'=4∧j=0 then .prow 77 7 l.length (fun j k=>if i≤j then pu l j k else .undef) else if i≤j then rr l k' j else .dead)⟩) (fun i=>i≤l.length) (fun i=>l.length - i) 0 (Le.mkDN _ _ _ ?_ ?_ ?_) (Nat.zero_le _) ?_
 · simp [upd,num,PV.kill,io]
 · intro kp hkp;cases hkp
 · intro k' j hk'
   simp [hk',oo,tm]
   exact .refl _
 · intro i hi
   unfold irp55_l6
   by_cases h1:i < l.length
   · obtain ⟨x,hxe⟩:∃ x,l[i]=x:=⟨_,rfl⟩
     have he:l[i]?=some x:=by rw [List.getElem?_eq_getElem h1,hxe]
     have hbx:ph 1048576 x:=by rw [← hxe];exact hx.2 _ (List.getElem_mem h1)
     have ho:∀ k,pu l i k=(qx x i).getD k .undef:=fun k=>by unfold pu;rw [he]
     have hf:∀ k,rr l k i=rn x k:=fun k=>by unfold rr;rw [he]
     have hst:io qh (l.take (i+1))=io qh (l.take i)+qh x:=by rw [q8 _ h1,hxe]
     have hle:=u7 (f:=qh) l (i+1)
     obtain ⟨m0,hm0⟩:∃ m,k+io qh (l.take i)=m:=⟨_,rfl⟩
     have q4:x.ids.length≤1048576:=hbx.2.2.1
     obtain ⟨m1,hm1⟩:∃ m,m0+1=m:=⟨_,rfl⟩
     obtain ⟨m2,hm2⟩:∃ m,m1+1=m:=⟨_,rfl⟩
     obtain ⟨m3,hm3⟩:∃ m,m2+1=m:=⟨_,rfl⟩
     obtain ⟨m4,hm4⟩:∃ m,m3+1=m:=⟨_,rfl⟩
     obtain ⟨m5,hm5⟩:∃ m,m4+1*x.ids.length=m:=⟨_,rfl⟩
     obtain ⟨m6,hm6⟩:∃ m,m5+1=m:=⟨_,rfl⟩
     obtain ⟨m7,hm7⟩:∃ m,m6+1=m:=⟨_,rfl⟩
     have hcx:qh x=6+x.ids.length:=rfl
     have hlast:k+io qh (l.take (i+1))=m7:=by omega
     have s0:IntKind.i64.wrap ((m0:Int)+1)=(m1:Int):=by rw [wrap_i64 (by omega) (by omega)];omega
     have s1:IntKind.i64.wrap ((m1:Int)+1)=(m2:Int):=by rw [wrap_i64 (by omega) (by omega)];omega
     have s2:IntKind.i64.wrap ((m2:Int)+1)=(m3:Int):=by rw [wrap_i64 (by omega) (by omega)];omega
     have hk2:=qw m2 (by omega)
     have s3:IntKind.i64.wrap ((m3:Int)+1)=(m4:Int):=by rw [wrap_i64 (by omega) (by omega)];omega
     have hk3:=qw m3 (by omega)
     have hk4:=Hj x.ids m4 (by omega) q4
     rw [hm5] at hk4
     have s5:IntKind.i64.wrap ((m5:Int)+1)=(m6:Int):=by rw [wrap_i64 (by omega) (by omega)];omega
     have hk5:=qw m5 (by omega)
     have s6:IntKind.i64.wrap ((m6:Int)+1)=(m7:Int):=by rw [wrap_i64 (by omega) (by omega)];omega
     rw [hm0]
     simp [num,tx,h1,ho,hf,cp,en,qx,rn,s0,s1,s2,s3,s5,s6]
     refine ab rfl rfl (.inl rfl) hk2 ?_
     simp [num,tx,h1,ho,hf,cp,en,qx,rn,s0,s1,s2,s3,s5,s6]
     refine ab rfl rfl (.inl rfl) hk3 ?_
     simp [num,tx,h1,ho,hf,cp,en,qx,rn,s0,s1,s2,s3,s5,s6]
     refine Kd (by simp [PV.plain1]) rfl rfl rfl hk4 rfl ?_
     simp [num,tx,h1,ho,hf,cp,en,qx,rn,s0,s1,s2,s3,s5,s6]
     refine ab rfl rfl (.inl rfl) hk5 ?_
     simp [num,tx,h1,ho,hf,cp,en,qx,rn,s0,s1,s2,s3,s5,s6]
     refine LoopNext.mk (i+1) h1 (by omega) (Le.mkDN _ _ _ ?_ ?_ ?_)
     · simp only [hlast]
       simp [num,s0,s1,s2,s3,s5,s6]
       exact wrap_i64 (by omega) (by omega)
     · intro kp hkp;cases hkp
     · intro k' j hk'
       by_cases h0:k'=4∧j=0
       · obtain ⟨rfl,rfl⟩:=h0
         simp [cp,en]
         refine .prow _ _ _ _ _ fun j k hj hk=>?_
         by_cases hji:j=i
         · rw [if_neg (show ¬ i+1≤j by omega)];exact .undef _
         · simp [hji]
           by_cases hj2:i≤j
           · rw [if_pos hj2,if_pos (by omega)];exact .refl _
           · rw [if_neg hj2,if_neg (by omega)];exact .undef _
       · rw [if_neg h0]
         by_cases hji:j=i
         · rw [if_neg (show ¬ i+1≤j by omega)];exact .dead _
         · simp [hk',cp,en,hji,h0]
           by_cases hj2:i≤j
           · rw [if_pos hj2,if_pos (by omega)];exact .refl _
           · rw [if_neg hj2,if_neg (by omega)];exact .refl _
   · have e:i=l.length:=by omega
     subst e
     simp [num,cp,en]
     refine Hr ?_
     simp [nl,wa]
theorem V3 {M:Nat→MObj} (l:List LWire) (h0:M (DN 4 0)=tm l) (h:∀ k j,k < 16→(rr l k j).live=true→M (DN k j)=rr l k j):Res M (.own (DN 4 0)) (.list 7 (l.map ja)):=by
 refine .prow _ _ _ _ (pu l) _ h0 (by simp) (fun x hx=>?_) fun j k hj hk=>?_
 · obtain ⟨y,_,rfl⟩:=List.mem_map.1 hx
   rfl
 have he:l[j]?=some l[j]:=List.getElem?_eq_getElem hj
 have e1:pu l j k=(qx l[j] j).getD k .undef:=by unfold pu;rw [he]
 have e2:(l.map ja).getD j .nilptr=ja l[j]:=by simp [List.getD_eq_getElem?_getD,he]
 rw [e1,e2]
 generalize l[j]=x at he ⊢
 have:k=0∨k=1∨k=2∨k=3∨k=4∨k=5∨k=6:=by omega
 rcases this with rfl | rfl | rfl | rfl | rfl | rfl | rfl
 · exact .val _
 · exact .val _
 · exact .val _
 · exact .val _
 · exact .row _ 3 _ _ (by rw [h 10 j (by omega) (by unfold rr;rw [he];rfl)];unfold rr;rw [he];rfl)
 · exact .val _
 · exact .val _
theorem H0 (l:List LChannel) (k:Nat) (hx:bdS 1048576 (md 1048576) l) (hk:k+io nd l < 8388608):mg Tryz.prog 53 [.own (DN 0 0),.val (num k)] (dyn (lu l)) (fun _=>false) (.val (num ((k+io nd l:Nat):Int))) (fun _=>.dead):=by
 refine ou mixed okp53 (fun i h=>Aa h) (fun i h=>by cases h) ?_
 unfold irp53
 rw [aa]
 have hl:l.length≤1048576:=hx.1
 simp [num]
 refine ay (X:=Nat) (fun i=>⟨co [(0,.own (DN 0 0)),(1,.val (num ((k+io nd (l.take i):Nat):Int))),(5,.val (num i))],C0 [] (fun k' j=>if k'=0∧j=0 then .prow 120 6 l.length (fun j k=>if i≤j then mz l j k else .undef) else if i≤j then l9 l k' j else .dead)⟩) (fun i=>i≤l.length) (fun i=>l.length - i) 0 (Le.mkDN _ _ _ ?_ ?_ ?_) (Nat.zero_le _) ?_
 · simp [upd,num,PV.kill,io]
 · intro kp hkp;cases hkp
 · intro k' j hk'
   simp [hk',lu,nw]
   exact .refl _
 · intro i hi
   unfold irp53_l6
   by_cases h1:i < l.length
   · obtain ⟨x,hxe⟩:∃ x,l[i]=x:=⟨_,rfl⟩
     have he:l[i]?=some x:=by rw [List.getElem?_eq_getElem h1,hxe]
     have hbx:md 1048576 x:=by rw [← hxe];exact hx.2 _ (List.getElem_mem h1)
     have ho:∀ k,mz l i k=(my x i).getD k .undef:=fun k=>by unfold mz;rw [he]
     have hf:∀ k,l9 l k i=ni x k:=fun k=>by unfold l9;rw [he]
     have hst:io nd (l.take (i+1))=io nd (l.take i)+nd x:=by rw [q8 _ h1,hxe]
     have hle:=u7 (f:=nd) l (i+1)
     obtain ⟨m0,hm0⟩:∃ m,k+io nd (l.take i)=m:=⟨_,rfl⟩
     have q2:x.group.targets.length≤1048576:=hbx.1.2.1
     have q3:x.peers.length≤1048576:=hbx.2.1.1
     have q4:x.queue.items.length≤1048576:=hbx.2.2.1.1
     have q5:x.queue.recent.length≤1048576:=hbx.2.2.2.1
     obtain ⟨m1,hm1⟩:∃ m,m0+1=m:=⟨_,rfl⟩
     obtain ⟨m2,hm2⟩:∃ m,m1+1=m:=⟨_,rfl⟩
     obtain ⟨m3,hm3⟩:∃ m,m2+3*x.group.targets.length=m:=⟨_,rfl⟩
     obtain ⟨m4,hm4⟩:∃ m,m3+6*x.peers.length=m:=⟨_,rfl⟩
     obtain ⟨m5,hm5⟩:∃ m,m4+4*x.queue.items.length=m:=⟨_,rfl⟩
     obtain ⟨m6,hm6⟩:∃ m,m5+1*x.queue.recent.length=m:=⟨_,rfl⟩
     have hcx:nd x=2+3*x.group.targets.length+6*x.peers.length+4*x.queue.items.length+x.queue.recent.length:=rfl
     have hlast:k+io nd (l.take (i+1))=m6:=by omega
     have s0:IntKind.i64.wrap ((m0:Int)+1)=(m1:Int):=by rw [wrap_i64 (by omega) (by omega)];omega
     have hk0:=qw m0 (by omega)
     have s1:IntKind.i64.wrap ((m1:Int)+1)=(m2:Int):=by rw [wrap_i64 (by omega) (by omega)];omega
     have hk2:=I8 x.group.targets m2 (by omega) q2
     rw [hm3] at hk2
     have hk3:=N6 x.peers m3 (by omega) q3
     rw [hm4] at hk3
     have hk4:=I9 x.queue.items m4 (by omega) q4
     rw [hm5] at hk4
     have hk5:=xp x.queue.recent m5 (by omega) q5
     rw [hm6] at hk5
     rw [hm0]
     simp [num,tx,h1,ho,hf,cp,en,my,ni,s0,s1]
     refine ab rfl rfl (.inl rfl) hk0 ?_
     simp [num,tx,h1,ho,hf,cp,en,my,ni,s0,s1]
     refine Kd (by simp [PV.plain1]) rfl rfl rfl hk2 rfl ?_
     simp [num,tx,h1,ho,hf,cp,en,my,ni,s0,s1]
     refine Kd (by simp [PV.plain1]) rfl rfl rfl hk3 rfl ?_
     simp [num,tx,h1,ho,hf,cp,en,my,ni,s0,s1]
     refine Kd (by simp [PV.plain1]) rfl rfl rfl hk4 rfl ?_
     simp [num,tx,h1,ho,hf,cp,en,my,ni,s0,s1]
     refine Kd (by simp [PV.plain1]) rfl rfl rfl hk5 rfl ?_
     simp [num,tx,h1,ho,hf,cp,en,my,ni,s0,s1]
     refine LoopNext.mk (i+1) h1 (by omega) (Le.mkDN _ _ _ ?_ ?_ ?_)
     · simp only [hlast]
       simp [num,s0,s1]
       exact wrap_i64 (by omega) (by omega)
     · intro kp hkp;cases hkp
     · intro k' j hk'
       by_cases h0:k'=0∧j=0
       · obtain ⟨rfl,rfl⟩:=h0
         simp [cp,en]
         refine .prow _ _ _ _ _ fun j k hj hk=>?_
         by_cases hji:j=i
         · rw [if_neg (show ¬ i+1≤j by omega)];exact .undef _
         · simp [hji]
           by_cases hj2:i≤j
           · rw [if_pos hj2,if_pos (by omega)];exact .refl _
           · rw [if_neg hj2,if_neg (by omega)];exact .undef _
       · rw [if_neg h0]
         by_cases hji:j=i
         · rw [if_neg (show ¬ i+1≤j by omega)];exact .dead _
         · simp [hk',cp,en,hji,h0]
           by_cases hj2:i≤j
           · rw [if_pos hj2,if_pos (by omega)];exact .refl _
           · rw [if_neg hj2,if_neg (by omega)];exact .refl _
   · have e:i=l.length:=by omega
     subst e
     simp [num,cp,en]
     refine Hr ?_
     simp [nl,wa]
theorem Mr {M:Nat→MObj} (l:List LChannel) (h0:M (DN 0 0)=nw l) (h:∀ k j,k < 16→(l9 l k j).live=true→M (DN k j)=l9 l k j):Res M (.own (DN 0 0)) (.list 6 (l.map aw)):=by
 refine .prow _ _ _ _ (mz l) _ h0 (by simp) (fun x hx=>?_) fun j k hj hk=>?_
 · obtain ⟨y,_,rfl⟩:=List.mem_map.1 hx
   rfl
 have he:l[j]?=some l[j]:=List.getElem?_eq_getElem hj
 have e1:mz l j k=(my l[j] j).getD k .undef:=by unfold mz;rw [he]
 have e2:(l.map aw).getD j .nilptr=aw l[j]:=by simp [List.getD_eq_getElem?_getD,he]
 rw [e1,e2]
 generalize l[j]=x at he ⊢
 have:k=0∨k=1∨k=2∨k=3∨k=4∨k=5:=by omega
 rcases this with rfl | rfl | rfl | rfl | rfl | rfl
 · exact .val _
 · exact .val _
 · exact .row _ 162 _ _ (by rw [h 5 j (by omega) (by unfold l9;rw [he];rfl)];unfold l9;rw [he];rfl)
 · exact .row _ 164 _ _ (by rw [h 6 j (by omega) (by unfold l9;rw [he];rfl)];unfold l9;rw [he];rfl)
 · exact .row _ 146 _ _ (by rw [h 7 j (by omega) (by unfold l9;rw [he];rfl)];unfold l9;rw [he];rfl)
 · exact .row _ 9 _ _ (by rw [h 8 j (by omega) (by unfold l9;rw [he];rfl)];unfold l9;rw [he];rfl)
end Go.Proofs
end
section
namespace Go.Proofs
open Go.PW Go.KP
attribute [local simp] RV.cells RV.one PV.cells PV.solid PV.one im ao kh ke RV.ofCells elems PV.killL
variable [GF]
attribute [local simp] y6 Fn M4 M5 M3 Jo vp Hz B0 J5 Ek Ip Cm
theorem Lv (p:LPolicy) (k:Nat) (hx:p9 1048576 p) (hk:k+p.uris.length+io o9 p.rules < 8388608):mg Tryz.prog 54 [.agg (ul p),.val (num k)] (dyn (lr p)) (fun _=>false) (.val (num ((k+p.uris.length+io o9 p.rules:Nat):Int))) (fun _=>.dead):=by
 refine ou mixed ok54 (fun i h=>Aa h) (fun i h=>by cases h) ?_
 unfold ir54
 rw [aa]
 obtain ⟨b0,b1,b2⟩:=hx
 have hl1:p.uris.length≤1048576:=b1.1
 have h1:=xp p.uris k (by omega) hl1
 have h2:=Ov p.rules (k+p.uris.length) b2 (by omega)
 rw [Nat.one_mul] at h1
 obtain ⟨m,hm⟩:∃ m,k+p.uris.length=m:=⟨_,rfl⟩
 rw [hm] at h1 h2 ⊢
 simp [num,tx,ul,lr,nv,qi]
 refine Kd (by simp [PV.plain1]) rfl rfl rfl h1 rfl ?_
 simp [num,tx,ul,lr,nv,qi]
 refine O2 (G:=nv p.rules) (fun k i=>k == 9 || k == 2 && i == 0) h2 ?_ ?_ ?_
 · intro q hq
   simp only [List.mem_cons,List.not_mem_nil,or_false] at hq
   rcases hq with rfl | rfl
   · exact lp (by simp)
   · exact mv
 · intro k i hk' hl
   obtain ⟨e1,e2,_⟩:=x4 p.rules k i (S:=TD fun k i=>k == 9 || k == 2 && i == 0) (fun k j h=>by subst h;simp) hl
   refine ⟨e1,?_,e2⟩
   have h5:¬ (k=1∧i=0):=by simp at e1;omega
   simp [hk',h5,lr]
   rw [Na _ _ _ _ fun k j h=>by simp]
 simp [num]
 refine Hr ?_
 simp [nl,wa,num]
theorem Rl (p:LPipe) (k:Nat) (hx:pi 1048576 p) (hk:k+yr p < 8388608):mg Tryz.prog 19 [.agg (u5 p),.val (num k)] (dyn (mb p)) (fun _=>false) (.val (num ((k+yr p:Nat):Int))) (fun _=>.dead):=by
 refine ou mixed ok19 (fun i h=>Aa h) (fun i h=>by cases h) ?_
 unfold ir19
 rw [aa]
 obtain ⟨b0,b1,b2,b3⟩:=hx
 have hcp:yr p=io nd p.channels+p.policy.uris.length+io o9 p.policy.rules+3*p.log.length+io qh p.wires:=rfl
 obtain ⟨m1,hm1⟩:∃ m,k+io nd p.channels=m:=⟨_,rfl⟩
 obtain ⟨m2,hm2⟩:∃ m,m1+p.policy.uris.length+io o9 p.policy.rules=m:=⟨_,rfl⟩
 obtain ⟨m3,hm3⟩:∃ m,m2+3*p.log.length=m:=⟨_,rfl⟩
 obtain ⟨m4,hm4⟩:∃ m,m3+io qh p.wires=m:=⟨_,rfl⟩
 have h1:=H0 p.channels k b0 (by omega)
 have h2:=Lv p.policy m1 b1 (by omega)
 have h3:=Lo p.log m2 (by omega) b2
 have h4:=Ou p.wires m3 b3 (by omega)
 have hm:k+yr p=m4:=by omega
 rw [hm1] at h1
 rw [hm2] at h2
 rw [hm3] at h3
 rw [hm4] at h4
 rw [hm]
 simp [num,tx,u5,mb,lr,nv,qi,lu,nw,oo,tm]
 refine O2 (G:=lu p.channels) (fun k i=>(k == 5 || k == 6 || k == 7 || k == 8) || k == 0 && i == 0) h1 ?_ ?_ ?_
 · intro q hq
   simp only [List.mem_cons,List.not_mem_nil,or_false] at hq
   rcases hq with rfl | rfl
   · exact lp (by simp)
   · exact mv
 · intro k i hk' hl
   obtain ⟨e1,e2,_⟩:=sg p.channels k i (S:=TD fun k i=>(k == 5 || k == 6 || k == 7 || k == 8) || k == 0 && i == 0) (fun k j h=>by rcases h with rfl | rfl | rfl | rfl<;>simp) hl
   refine ⟨e1,?_,e2⟩
   have h5:¬ (k=3∧i=0)∧¬ (k=1∧i=0∨k=2∧i=0∨k=9)∧¬ (k=4∧i=0∨k=10):=by simp at e1;omega
   simp [hk',mb,h5.1,h5.2.1,h5.2.2]
   rw [uc _ _ _ _ fun k j h=>by simp]
 simp [num,tx,u5,mb,lr,nv,qi,lu,nw,oo,tm]
 refine O2 (G:=lr p.policy) (fun k i=>k == 1 && i == 0 || k == 9 || k == 2 && i == 0) h2 ?_ ?_ ?_
 · intro q hq
   simp only [List.mem_cons,List.not_mem_nil,or_false] at hq
   rcases hq with rfl | rfl
   · exact s8 fun q hq=>by
      simp only [ul,List.mem_cons,List.not_mem_nil,or_false] at hq
      rcases hq with rfl | rfl | rfl
      · exact mv
      · exact lp (by simp)
      · exact lp (by simp)
   · exact mv
 · intro k i hk' hl
   obtain ⟨e1,e2,_⟩:=w9 p.policy k i (S:=TD fun k i=>k == 1 && i == 0 || k == 9 || k == 2 && i == 0) (fun k j h=>by subst h;simp) hl
   refine ⟨e1,?_,e2⟩
   have h5:¬ (k=3∧i=0)∧(k=1∧i=0∨k=2∧i=0∨k=9)∧¬ ((((k=5∨k=6)∨k=7)∨k=8)∨k=0∧i=0):=by simp at e1;omega
   simp [hk',mb,h5.1,h5.2.1,h5.2.2]
   rw [u6 _ _ _ _ fun k j h=>by simp,u6 _ _ _ _ fun k j h=>by subst h;simp]
 simp [num,tx,u5,mb,lr,nv,qi,lu,nw,oo,tm]
 refine Kd (by simp [PV.plain1]) rfl rfl rfl h3 rfl ?_
 simp [num,tx,u5,mb,lr,nv,qi,lu,nw,oo,tm]
 refine O2 (G:=oo p.wires) (fun k i=>(k == 10) || k == 4 && i == 0) h4 ?_ ?_ ?_
 · intro q hq
   simp only [List.mem_cons,List.not_mem_nil,or_false] at hq
   rcases hq with rfl | rfl
   · exact lp (by simp)
   · exact mv
 · intro k i hk' hl
   obtain ⟨e1,e2,_⟩:=Ax p.wires k i (S:=TD fun k i=>(k == 10) || k == 4 && i == 0) (fun k j h=>by subst h;simp) hl
   refine ⟨e1,?_,e2⟩
   have h5:¬ (k=3∧i=0)∧¬ (k=1∧i=0∨k=2∧i=0∨k=9)∧(k=4∧i=0∨k=10)∧¬ ((((k=5∨k=6)∨k=7)∨k=8)∨k=0∧i=0)∧¬ ((k=1∧i=0∨k=9)∨k=2∧i=0):=by simp at e1;omega
   simp [hk',mb,h5.1,h5.2.1,h5.2.2.1,h5.2.2.2.1,h5.2.2.2.2]
   rw [zm _ _ _ _ fun k j h=>by simp,zm _ _ _ _ fun k j h=>by subst h;simp,zm _ _ _ _ fun k j h=>by subst h;simp]
 simp [num]
 refine Hr ?_
 simp [nl,wa,num]
theorem zn (p:LPipe) (k i:Nat) (h:k=1∧i=0∨k=2∧i=0∨k=9):mb p k i=lr p.policy k i:=by
 unfold mb;rw [if_neg (by omega),if_pos h]
theorem Jr (p:LPipe) (k i:Nat) (h:k=4∧i=0∨k=10):mb p k i=oo p.wires k i:=by
 unfold mb;rw [if_neg (by omega),if_neg (by omega),if_pos h]
theorem C1 (p:LPipe) (k i:Nat) (h:k=0∧i=0∨k=5∨k=6∨k=7∨k=8):mb p k i=lu p.channels k i:=by
 unfold mb;rw [if_neg (by omega),if_neg (by omega),if_neg (by omega)]
theorem Dx (p:LPipe) (k i:Nat) (h:(mb p k i).live=true):qe k i=true:=by
 unfold mb at h
 unfold qe
 split at h
 · rename_i e;simp [e]
 split at h
 · rename_i e;rcases e with e | e | e<;>simp [e]
 split at h
 · rename_i e;rcases e with e | e<;>simp [e]
 · have:=(sg p.channels k i (S:=fun _=>true) (fun _ _ _=>rfl) h).1
   simp at this
   simp;omega
theorem x5 (p:LPipe) (k i:Nat):(mb p k i).onT (TD qe):=by
 unfold mb
 split
 · exact np
 split
 · exact w8 p.policy k i fun k j h=>by subst h;simp [qe]
 split
 · exact Dw p.wires k i fun k j h=>by subst h;simp [qe]
 · exact yj p.channels k i fun k j h=>by rcases h with rfl | rfl | rfl | rfl<;>simp [qe]
theorem Bv (p:LPipe) (k i:Nat):∀ cs,mb p k i≠.box cs:=by
 intro cs h
 have hl:(mb p k i).live=true:=by rw [h];rfl
 unfold mb at h hl
 split at h
 · cases h
 rename_i h0
 rw [if_neg h0] at hl
 split at h
 · rename_i e;rw [if_pos e] at hl;exact (w9 p.policy k i (S:=fun _=>true) (fun _ _ _=>rfl) hl).2.2 cs h
 rename_i h1
 rw [if_neg h1] at hl
 split at h
 · rename_i e;rw [if_pos e] at hl;exact (Ax p.wires k i (S:=fun _=>true) (fun _ _ _=>rfl) hl).2.2 cs h
 · rename_i e;rw [if_neg e] at hl;exact (sg p.channels k i (S:=fun _=>true) (fun _ _ _=>rfl) hl).2.2 cs h
theorem Nb (p:LPipe) (k i:Nat) (d:Nat→Bool) (h:∀ x,TD qe x=true→d x=false):(mb p k i).kill d=mb p k i:=(x5 p k i).2 d h
theorem Dy (p:LPipe) (k i n:Nat) (hn:n < 1000000):(mb p k i).kill (fun x=>x == n)=mb p k i:=Nb p k i _ fun x hx=>by
 have:=TD_D hx
 simp [isD] at this
 simp;omega
theorem A5 (p:LPipe):(PV.agg (u5 p)).onT (TD qe):=s8 fun q hq=>by
 simp only [u5,List.mem_cons,List.not_mem_nil,or_false] at hq
 rcases hq with rfl | rfl | rfl | rfl | rfl | rfl | rfl | rfl
 · exact lp (by simp [qe])
 · exact mv
 · exact lp (by simp [qe])
 · exact lp (by simp [qe])
 · exact mv
 · exact mv
 · exact lp (by simp [qe])
 · exact lp (by simp [qe])
theorem Gq (p:LPipe) (M:Nat→MObj) (h:∀ k j,k < 16→qe k j=true→M (DN k j)=mb p k j):Res M (.agg (u5 p)) (ik p):=by
 have hc:=Mr (M:=M) p.channels (by rw [h 0 0 (by omega) (by simp [qe]),C1 _ _ _ (by omega)];simp [lu]) fun k j hk hl=>by
  rcases va p.channels k j with ⟨h',_,_⟩ | e
  · rw [h k j hk (by rcases h' with rfl | rfl | rfl | rfl<;>simp [qe]),C1 _ _ _ (by omega)]
    unfold lu;rw [if_neg (by omega)]
  · rw [e] at hl;cases hl
 have hr:=V4 (M:=M) p.policy.rules (by rw [h 2 0 (by omega) (by simp [qe]),zn _ _ _ (by omega)];simp [lr,nv]) fun k j hk hl=>by
  rcases yp p.policy.rules k j with ⟨h',_,_⟩ | e
  · rw [h k j hk (by subst h';simp [qe]),zn _ _ _ (by omega)]
    unfold lr nv;rw [if_neg (by omega),if_neg (by omega)]
  · rw [e] at hl;cases hl
 have hw:=V3 (M:=M) p.wires (by rw [h 4 0 (by omega) (by simp [qe]),Jr _ _ _ (by omega)];simp [oo]) fun k j hk hl=>by
  rcases yo p.wires k j with ⟨h',_,_⟩ | e
  · rw [h k j hk (by subst h';simp [qe]),Jr _ _ _ (by omega)]
    unfold oo;rw [if_neg (by omega)]
  · rw [e] at hl;cases hl
 refine .agg _ _ rfl fun i hi=>?_
 have:i=0∨i=1∨i=2∨i=3∨i=4∨i=5∨i=6∨i=7:=by simp [u5] at hi;omega
 rcases this with rfl | rfl | rfl | rfl | rfl | rfl | rfl | rfl
 · exact hc
 · exact .val _
 · exact .row _ 9 _ _ (by rw [h 1 0 (by omega) (by simp [qe]),zn _ _ _ (by omega)];simp [lr])
 · exact hr
 · exact .val _
 · exact .val _
 · exact .row _ 83 _ _ (by rw [h 3 0 (by omega) (by simp [qe])];simp [mb])
 · exact hw
theorem Gb (p:LPipe) (hs:pi 1048576 p):ag Tryz.prog 11 [.val (ik p)] (.ret (.val (ik p)) []) []:=
 ok_of_mem (Or p hs) (Gq p _ fun k j hk _=>vp hk)
end Go.Proofs
end
