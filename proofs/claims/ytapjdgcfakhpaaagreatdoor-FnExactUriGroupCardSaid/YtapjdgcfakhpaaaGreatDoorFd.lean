/- Fd: merged out of KXb, KXc, KXd, KXe. -/
import Derived.Test.YtapjdgcfakhpaaaGreatDoorFc
import Derived.Test.YtapjdgcfakhpaaaGreatDoorPWaf
import Derived.Test.YtapjdgcfakhpaaaGreatDoorPWag
set_option linter.unusedSectionVars false
set_option linter.unusedSimpArgs false
set_option linter.unusedVariables false
set_option maxRecDepth 100000
section
namespace Go.Proofs
open Go.PW Go.KP
attribute [local simp] RV.cells RV.one PV.cells PV.solid PV.one w5 i6 n7 n6 RV.ofCells elems PV.killL
variable [GF]
attribute [local simp] a3c a7f b11 b12 b1z b10 a06 a7z a4l b2g a73 a74 a44
theorem b5m {α:Type} {f:α→RV} (h:∀ x,(f x).flat=true) (l:List α):∀ x∈l.map f,x.flat=true:=fun x hx=>by
 obtain ⟨y,_,rfl⟩:=List.mem_map.1 hx
 exact h y
theorem a8t (l:List Tx) (k j:Nat) (hk:k < 16) (hx:bdS 1048576 (fun t=>t.length≤1048576) l):W0 Tryz.prog 70 [.val (.list 1 (l.map tx))] (fun _=>.dead) (fun _=>false) (.own (DN k j)) (dyn fun k' j'=>if k'=k∧j'=j then .row 9 1 (l.map tx) else .dead):=
 mem_new (a7y l hx) (b5m (fun _=>rfl) l) k j hk
def X7 (x:LRule) (j:Nat):List PV:=[.val (tx x.name),.own (DN 9 j)]
def Z7 (x:LRule) (k:Nat):MObj:=if k=9 then .row 9 1 (x.words.map tx) else .dead
theorem a1v (x:LRule) (k:Nat):((k=9)∧∃ E sz xs,Z7 x k=.row E sz xs)∨Z7 x k=.dead∧¬ (k=9):=by
 by_cases h:k=9
 · refine .inl ⟨h,?_⟩
   unfold Z7
   subst h;simp
 · refine .inr ⟨?_,h⟩
   unfold Z7
   skip
   simp [h]
theorem b2d (x:LRule) (j:Nat) {S:Nat→Bool} (h:∀ k,(k=9)→S (DN k j)=true):(PV.agg (X7 x j)).onT S:=by
 refine a91 fun p hp=>?_
 simp only [X7,List.mem_cons,List.not_mem_nil,or_false] at hp
 rcases hp with rfl | rfl
 · exact a2c
 · exact a1p (h _ (by simp))
theorem c2u (x:LRule) (j:Nat) (hx:R6 1048576 x):W0 Tryz.prog 129 [.val (j5 x)] (fun _=>.dead) (fun _=>false) (.agg (X7 x j)) (dyn fun k i=>if i=j then Z7 x k else .dead):=by
 refine a40 mixed ok129 (fun i h=>by cases h) (fun i h=>by cases h) ?_
 unfold ir129
 rw [b9]
 unfold R6 at hx
 obtain ⟨b0,b1⟩:=hx
 simp [j5,tx,num]
 refine b50 (rs:=[.list 1 (x.words.map tx)]) (fun k' i'=>k' == 9 && i' == j) rfl (a8t x.words 9 j (by omega) b1) ?_ ?_ ?_
 · intro k i hk hl
   by_cases h:k=9∧i=j
   · rw [if_pos h]
     exact ⟨by simp [h],a3n,fun cs h=>by cases h⟩
   · rw [if_neg h] at hl;cases hl
 · exact a1p (by simp)
 simp [j5,tx,num]
 refine c2s _ ?_ ?_ ?_ ?_
 · simp [X7,Z7,j5,tx,num,H7,a3j]
 · intro k i hk hl
   by_cases h:i=j
   · subst h
     rw [if_pos rfl] at hl ⊢
     rcases a1v x k with ⟨h,E,sz,xs,e⟩ | ⟨h,_⟩
     · subst h<;>simp [X7,Z7]
     · rw [h] at hl;cases hl
   · rw [if_neg h] at hl;cases hl
 · exact b2d x j fun k _=>by simp
 · intro k i hk
   by_cases h:i=j
   · rw [if_pos h]
     rcases a1v x k with ⟨h,E,sz,xs,e⟩ | ⟨h,_⟩
     · rw [e];exact a3n
     · rw [h];exact a4d
   · rw [if_neg h];exact a4d
def T3 (l:List LRule) (j k:Nat):PV:=match l[j]? with
 | some x=>(X7 x j).getD k .undef
 | none=>.undef
def a0j (l:List LRule):MObj:=.prow 181 2 l.length (T3 l)
def X3 (l:List LRule) (k j:Nat):MObj:=match l[j]? with
 | some x=>Z7 x k
 | none=>.dead
theorem c01 (x:LRule) (j k:Nat):(∃ r,(X7 x j).getD k .undef=.val r)∨(X7 x j).getD k .undef=.undef∨(∃ k',(k'=9)∧(X7 x j).getD k .undef=.own (DN k' j)):=by
 unfold X7
 by_cases h:k < 2
 · have:k=0∨k=1:=by omega
   rcases this with rfl | rfl<;>simp
 · rw [List.getD_eq_getElem?_getD,List.getElem?_eq_none (by simp;omega)]
   exact .inr (.inl rfl)
theorem a95 (l:List LRule) (j k:Nat):(∃ r,T3 l j k=.val r)∨T3 l j k=.undef∨(∃ k',(k'=9)∧T3 l j k=.own (DN k' j)):=by
 unfold T3
 cases l[j]? with
 | none=>exact .inr (.inl rfl)
 | some x=>exact c01 x j k
theorem b2x (l:List LRule) (j k:Nat) (d:Nat→Bool) (h:∀ k',(k'=9)→d (DN k' j)=false):(T3 l j k).kill d=T3 l j k:=by
 rcases a95 l j k with ⟨r,e⟩ | e | ⟨k',hk,e⟩<;>rw [e]<;>simp only [PV.kill]
 rw [h k' hk];rfl
theorem a3t (l:List LRule) (k j:Nat):((k=9)∧j < l.length∧∃ E sz xs,X3 l k j=.row E sz xs)∨X3 l k j=.dead:=by
 unfold X3
 by_cases h:j < l.length
 · rw [List.getElem?_eq_getElem h]
   rcases a1v l[j] k with ⟨h',e⟩ | ⟨h,_⟩
   · exact .inl ⟨h',h,e⟩
   · exact .inr h
 · rw [List.getElem?_eq_none (by omega)];exact .inr rfl
theorem b5o (l:List LRule) (k j:Nat) (d:Nat→Bool):(X3 l k j).kill d=X3 l k j:=by
 rcases a3t l k j with ⟨_,_,E,sz,xs,e⟩ | e<;>rw [e]<;>rfl
theorem b1y (l:List LRule) {S:Nat→Bool} (h:∀ k j,(k=9)→S (DN k j)=true):(a0j l).onT S:=by
 refine c1r fun j k=>?_
 rcases a95 l j k with ⟨r,e⟩ | e | ⟨k',hk,e⟩
 · exact .inl ⟨r,e⟩
 · exact .inr (.inl e)
 · exact .inr (.inr (.inr ⟨_,e,h k' j hk⟩))
def S4 (l:List LRule) (k i:Nat):MObj:=if k=2∧i=0 then a0j l else X3 l k i
theorem a2w (l:List LRule) (k i:Nat) {S:Nat→Bool} (hS:∀ k j,(k=9)→S (DN k j)=true) (h:(S4 l k i).live=true):((k == 9) || (k == 2 && i == 0))=true∧(S4 l k i).onT S∧∀ cs,S4 l k i≠.box cs:=by
 unfold S4 at h ⊢
 by_cases h0:k=2∧i=0
 · rw [if_pos h0]
   exact ⟨by simp [h0],b1y l hS,fun cs h=>by cases h⟩
 · rw [if_neg h0] at h ⊢
   rcases a3t l k i with ⟨h',_,E,sz,xs,e⟩ | e
   · rw [e]
     refine ⟨?_,a3n,fun cs h=>by cases h⟩
     subst h';simp
   · rw [e] at h;cases h
theorem b93 (l:List LRule) (k i:Nat) {S:Nat→Bool} (hS:∀ k j,(k=9)→S (DN k j)=true):(S4 l k i).onT S:=by
 cases hl:(S4 l k i).live with
 | true=>exact (a2w l k i hS hl).2.1
 | false=>cases hm:S4 l k i<;>rw [hm] at hl<;>first | exact a4d | cases hl
theorem b4t (l:List LRule) (k i:Nat) (d:Nat→Bool) (h:∀ k j,(k=9)→d (DN k j)=false):(S4 l k i).kill d=S4 l k i:=
 (b93 l k i (S:=fun x=>!d x) fun k j hk=>by simp [h k j hk]).2 d fun x hx=>by simpa using hx
theorem c0q (l:List LRule) (hx:bdS 1048576 (R6 1048576) l):W0 Tryz.prog 71 [.val (.list 2 (l.map j5))] (fun _=>.dead) (fun _=>false) (.own (DN 2 0)) (dyn (S4 l)):=by
 refine a40 mixed okp71 (fun i h=>by cases h) (fun i h=>by cases h) ?_
 unfold irp71
 rw [b9]
 have hl:l.length≤1048576:=hx.1
 simp [num,w5]
 refine ⟨by omega,by omega,?_⟩
 refine l4 (X:=Nat) (fun i=>⟨u0 [(0,.val (.list 2 (l.map j5))),(3,.own 7),(4,.val (num i))],b1e [(7,.prow 181 2 l.length fun j k=>if j < i then T3 l j k else .undef)] (fun k j=>if j < i then X3 l k j else .dead)⟩) (fun i=>i≤l.length) (fun i=>l.length - i) 0 (Le.mkDN _ _ _ ?_ ?_ ?_) (Nat.zero_le _) ?_
 · simp [upd,num,PV.kill]
 · intro kp hkp
   rw [List.mem_singleton.1 hkp]
   simp [upd]
   refine .rowp _ _ _ _ _ (by simp) fun j k hj hk=>?_
   exact .undef _
 · intro k j hk
   simp
   exact .dead _
 · intro i hi
   simp [num,N4,S3]
   refine i7 (fun h1=>?_) (fun h1=>?_)
   · obtain ⟨x,hxe⟩:∃ x,l[i]=x:=⟨_,rfl⟩
     have he:l[i]?=some x:=by rw [List.getElem?_eq_getElem h1,hxe]
     have hbx:R6 1048576 x:=by rw [← hxe];exact hx.2 _ (List.getElem_mem h1)
     simp [num,h1,he,hxe,N4,S3,j5]
     refine b50 (rs:=[j5 x]) (fun k' i'=>(k' == 9) && i' == i) rfl (c2u x i hbx) ?_ ?_ ?_
     · intro k' i' hk hl
       by_cases h:i'=i
       · subst h
         rw [if_pos rfl] at hl ⊢
         rcases a1v x k' with ⟨h,E,sz,xs,e⟩ | ⟨h,_⟩
         · rw [e];exact ⟨by subst h;simp,a3n,fun cs h=>by cases h⟩
         · rw [h] at hl;cases hl
       · rw [if_neg h] at hl;cases hl
     · refine b2d x i fun k h=>?_
       subst h;simp
     simp [num,tx,h1,he,N4,S3,X7,Z7]
     refine LoopNext.mk (i+1) h1 (by omega) (Le.mkDN _ _ _ ?_ ?_ ?_)
     · simp [num]
       exact wrap_i64 (by omega) (by omega)
     · intro kp hkp
       rw [List.mem_singleton.1 hkp]
       simp [N4,S3]
       refine .prow _ _ _ _ _ fun j k hj hk=>?_
       by_cases hji:j=i
       · subst hji
         have e:T3 l j k=(X7 x j).getD k .undef:=by unfold T3;rw [he]
         rw [if_pos ⟨rfl,hk⟩,if_pos (by omega),e]
         exact .refl _
       · rw [if_neg (fun h=>hji h.1)]
         by_cases hj2:j < i
         · rw [if_pos hj2,if_pos (by omega),b2x]
           · exact .refl _
           · intro k h
             subst h;simp [hji]
         · rw [if_neg (by omega),if_neg (by omega)];exact .undef _
     · intro k j hk
       by_cases hji:j=i
       · subst hji
         have e:X3 l k j=Z7 x k:=by unfold X3;rw [he]
         simp [hk,N4,S3]
         rw [e]
         rcases a1v x k with ⟨h,E,sz,xs,e⟩ | ⟨h,_⟩
         · subst h;simp [Z7]<;>exact .refl _
         · rw [h];exact .dead _
       · simp [hk,N4,S3,hji]
         by_cases hj2:j < i
         · rw [if_pos hj2,if_pos (by omega),b5o];exact .refl _
         · rw [if_neg (by omega),if_neg (by omega)];exact .dead _
   · have e:i=l.length:=by omega
     subst e
     simp [num,N4,S3]
     refine finM_G [(DN 2 0,7,a0j l)] (fun k j=>X3 l k j) ?_ ?_ ?_ ?_ ?_ ?_
     · intro k j hk
       simp [a4f,S4,hk]
     · simp [ioL,PV.ren,H7,a3j]
     · intro e he
       rw [List.mem_singleton.1 he]
       refine ⟨by simp,by simp,?_⟩
       have:(a0j l).ren (ioL [(DN 2 0,7,a0j l)])=a0j l:=(b1y l (S:=TD (fun k i=>(k == 9))) fun k j h=>by subst h;simp).1 _ fun x hx=>by
        refine ioL_off fun e he=>?_
        rw [List.mem_singleton.1 he]
        rintro rfl
        simp at hx
       rw [this]
       simp [N4,S3,a0j]
       funext j k
       by_cases hj:j < l.length
       · rw [if_pos hj]
       · rw [if_neg hj];unfold T3;rw [List.getElem?_eq_none (by omega)]
     · simp
     · intro e he
       rw [List.mem_singleton.1 he];simp
     · intro k j hk hl _
       rcases a3t l k j with ⟨_,hj,E,sz,xs,e⟩ | e
       · simp [N4,S3,hk,hj]
         rw [e];rfl
       · rw [e] at hl;cases hl
end Go.Proofs
end
section
namespace Go.Proofs
open Go.PW Go.KP
attribute [local simp] RV.cells RV.one PV.cells PV.solid PV.one w5 i6 n7 n6 RV.ofCells elems PV.killL
variable [GF]
attribute [local simp] a3c a7f b11 b12 b1z b10 a06 a7z a4l b2g a73 a74 a44
def X8 (p:LPolicy):List PV:=[.val (tx p.reportTo),.own (DN 1 0),.own (DN 2 0)]
def n9 (p:LPolicy) (k i:Nat):MObj:=if k=1∧i=0 then .row 9 1 (p.uris.map tx) else S4 p.rules k i
theorem a4g (p:LPolicy) (k i:Nat) {S:Nat→Bool} (hS:∀ k j,(k=9)→S (DN k j)=true) (h:(n9 p k i).live=true):(k == 1 && i == 0 || k == 9 || k == 2 && i == 0)=true∧(n9 p k i).onT S∧∀ cs,n9 p k i≠.box cs:=by
 unfold n9 at h ⊢
 by_cases h0:k=1∧i=0
 · rw [if_pos h0]
   exact ⟨by simp [h0],a3n,fun cs h=>by cases h⟩
 · rw [if_neg h0] at h ⊢
   obtain ⟨h1,h2,h3⟩:=a2w p.rules k i hS h
   refine ⟨?_,h2,h3⟩
   simp only [Bool.or_eq_true] at h1 ⊢
   rcases h1 with h1 | h1
   · exact .inl (.inr h1)
   · exact .inr h1
theorem a8j (p:LPolicy) (k i:Nat) {S:Nat→Bool} (hS:∀ k j,(k=9)→S (DN k j)=true):(n9 p k i).onT S:=by
 cases hl:(n9 p k i).live with
 | true=>exact (a4g p k i hS hl).2.1
 | false=>cases hm:n9 p k i<;>rw [hm] at hl<;>first | exact a4d | cases hl
theorem b0r (p:LPolicy) (hx:M4 1048576 p):W0 Tryz.prog 22 [.val (j8 p)] (fun _=>.dead) (fun _=>false) (.agg (X8 p)) (dyn (n9 p)):=by
 refine a40 mixed ok22 (fun i h=>by cases h) (fun i h=>by cases h) ?_
 unfold ir22
 rw [b9]
 obtain ⟨b0,b1,b2⟩:=hx
 simp [j8,tx,num]
 refine b50 (rs:=[.list 1 (p.uris.map tx)]) (fun k i=>k == 1 && i == 0) rfl (a8t p.uris 1 0 (by omega) b1) ?_ ?_ ?_
 · intro k i hk hl
   by_cases h:k=1∧i=0
   · rw [if_pos h]
     exact ⟨by simp [h],a3n,fun cs h=>by cases h⟩
   · rw [if_neg h] at hl;cases hl
 · exact a1p (by simp)
 simp [j8,tx,num]
 refine b50 (rs:=[.list 2 (p.rules.map j5)]) (fun k i=>k == 9 || k == 2 && i == 0) rfl (c0q p.rules b2) (fun k i hk hl=>a2w p.rules k i (fun k j h=>by subst h;simp) hl) (a1p (by simp)) ?_
 simp [j8,tx,num,S4,a0j]
 refine c2s _ ?_ ?_ ?_ ?_
 · simp [X8,tx,num,H7,a3j]
 · intro k i hk hl
   by_cases h1:k=1∧i=0
   · obtain ⟨rfl,rfl⟩:=h1;simp [n9]
   · have e:n9 p k i=S4 p.rules k i:=by unfold n9;rw [if_neg h1]
     rw [e] at hl ⊢
     have h2:=(a2w p.rules k i (S:=fun _=>true) (fun _ _ _=>rfl) hl).1
     simp at h2
     simp [hk,h2]
     try simp [S4,a0j]
 · exact a91 fun q hq=>by
    simp only [X8,List.mem_cons,List.not_mem_nil,or_false] at hq
    rcases hq with rfl | rfl | rfl
    · exact a2c
    · exact a1p (by simp)
    · exact a1p (by simp)
 · intro k i hk
   exact a8j p k i fun k j h=>by simp
end Go.Proofs
end
section
namespace Go.Proofs
open Go.PW Go.KP
attribute [local simp] RV.cells RV.one PV.cells PV.solid PV.one w5 i6 n7 n6 RV.ofCells elems PV.killL
variable [GF]
attribute [local simp] a3c a7f b11 b12 b1z b10 a06 a7z a4l b2g a73 a74 a44
theorem b5t (l:List LRule) (k:Nat) (hx:bdS 1048576 (R6 1048576) l) (hk:k+S1 T8 l < 8388608):W0 Tryz.prog 78 [.own (DN 2 0),.val (num k)] (dyn (S4 l)) (fun _=>false) (.val (num ((k+S1 T8 l:Nat):Int))) (fun _=>.dead):=by
 refine a40 mixed okp78 (fun i h=>b5r h) (fun i h=>by cases h) ?_
 unfold irp78
 rw [b9]
 have hl:l.length≤1048576:=hx.1
 simp [num]
 refine l4 (X:=Nat) (fun i=>⟨u0 [(0,.own (DN 2 0)),(1,.val (num ((k+S1 T8 (l.take i):Nat):Int))),(5,.val (num i))],b1e [] (fun k' j=>if k'=2∧j=0 then .prow 181 2 l.length (fun j k=>if i≤j then T3 l j k else .undef) else if i≤j then X3 l k' j else .dead)⟩) (fun i=>i≤l.length) (fun i=>l.length - i) 0 (Le.mkDN _ _ _ ?_ ?_ ?_) (Nat.zero_le _) ?_
 · simp [upd,num,PV.kill,S1]
 · intro kp hkp;cases hkp
 · intro k' j hk'
   simp [hk',S4,a0j]
   exact .refl _
 · intro i hi
   unfold irp78_l6
   by_cases h1:i < l.length
   · obtain ⟨x,hxe⟩:∃ x,l[i]=x:=⟨_,rfl⟩
     have he:l[i]?=some x:=by rw [List.getElem?_eq_getElem h1,hxe]
     have hbx:R6 1048576 x:=by rw [← hxe];exact hx.2 _ (List.getElem_mem h1)
     have ho:∀ k,T3 l i k=(X7 x i).getD k .undef:=fun k=>by unfold T3;rw [he]
     have hf:∀ k,X3 l k i=Z7 x k:=fun k=>by unfold X3;rw [he]
     have hst:S1 T8 (l.take (i+1))=S1 T8 (l.take i)+T8 x:=by rw [a7t _ h1,hxe]
     have hle:=b25 (f:=T8) l (i+1)
     obtain ⟨m0,hm0⟩:∃ m,k+S1 T8 (l.take i)=m:=⟨_,rfl⟩
     have q1:x.words.length≤1048576:=hbx.2.1
     obtain ⟨m1,hm1⟩:∃ m,m0+1=m:=⟨_,rfl⟩
     obtain ⟨m2,hm2⟩:∃ m,m1+1*x.words.length=m:=⟨_,rfl⟩
     have hcx:T8 x=1+x.words.length:=rfl
     have hlast:k+S1 T8 (l.take (i+1))=m2:=by omega
     have s0:IntKind.i64.wrap ((m0:Int)+1)=(m1:Int):=by rw [wrap_i64 (by omega) (by omega)];omega
     have hk0:=a3y m0 (by omega)
     have hk1:=a5v x.words m1 (by omega) q1
     rw [hm2] at hk1
     rw [hm0]
     simp [num,tx,h1,ho,hf,N4,S3,X7,Z7,s0]
     refine d7 rfl rfl (.inl rfl) hk0 ?_
     simp [num,tx,h1,ho,hf,N4,S3,X7,Z7,s0]
     refine rowC (by simp [PV.plain1]) rfl rfl rfl hk1 rfl ?_
     simp [num,tx,h1,ho,hf,N4,S3,X7,Z7,s0]
     refine LoopNext.mk (i+1) h1 (by omega) (Le.mkDN _ _ _ ?_ ?_ ?_)
     · simp only [hlast]
       simp [num,s0]
       exact wrap_i64 (by omega) (by omega)
     · intro kp hkp;cases hkp
     · intro k' j hk'
       by_cases h0:k'=2∧j=0
       · obtain ⟨rfl,rfl⟩:=h0
         simp [N4,S3]
         refine .prow _ _ _ _ _ fun j k hj hk=>?_
         by_cases hji:j=i
         · rw [if_neg (show ¬ i+1≤j by omega)];exact .undef _
         · simp [hji]
           by_cases hj2:i≤j
           · rw [if_pos hj2,if_pos (by omega)];exact .refl _
           · rw [if_neg hj2,if_neg (by omega)];exact .undef _
       · rw [if_neg h0]
         by_cases hji:j=i
         · rw [if_neg (show ¬ i+1≤j by omega)];exact .dead _
         · simp [hk',N4,S3,hji,h0]
           by_cases hj2:i≤j
           · rw [if_pos hj2,if_pos (by omega)];exact .refl _
           · rw [if_neg hj2,if_neg (by omega)];exact .refl _
   · have e:i=l.length:=by omega
     subst e
     simp [num,N4,S3]
     refine c2r ?_
     simp [H7,a3j]
theorem c1l {M:Nat→MObj} (l:List LRule) (h0:M (DN 2 0)=a0j l) (h:∀ k j,k < 16→(X3 l k j).live=true→M (DN k j)=X3 l k j):Res M (.own (DN 2 0)) (.list 2 (l.map j5)):=by
 refine .prow _ _ _ _ (T3 l) _ h0 (by simp) (fun x hx=>?_) fun j k hj hk=>?_
 · obtain ⟨y,_,rfl⟩:=List.mem_map.1 hx
   rfl
 have he:l[j]?=some l[j]:=List.getElem?_eq_getElem hj
 have e1:T3 l j k=(X7 l[j] j).getD k .undef:=by unfold T3;rw [he]
 have e2:(l.map j5).getD j .nilptr=j5 l[j]:=by simp [List.getD_eq_getElem?_getD,he]
 rw [e1,e2]
 generalize l[j]=x at he ⊢
 have:k=0∨k=1:=by omega
 rcases this with rfl | rfl
 · exact .val _
 · exact .row _ 9 _ _ (by rw [h 9 j (by omega) (by unfold X3;rw [he];rfl)];unfold X3;rw [he];rfl)
end Go.Proofs
end
section
namespace Go.Proofs
open Go.PW Go.KP
attribute [local simp] RV.cells RV.one PV.cells PV.solid PV.one w5 i6 n7 n6 RV.ofCells elems PV.killL
variable [GF]
attribute [local simp] a3c a7f b11 b12 b1z b10 a06 a7z a4l b2g a73 a74 a44
theorem b3q (p:LPolicy) (k:Nat) (hx:M4 1048576 p) (hk:k+p.uris.length+S1 T8 p.rules < 8388608):W0 Tryz.prog 26 [.agg (X8 p),.val (num k)] (dyn (n9 p)) (fun _=>false) (.val (num ((k+p.uris.length+S1 T8 p.rules:Nat):Int))) (fun _=>.dead):=by
 refine a40 mixed ok26 (fun i h=>b5r h) (fun i h=>by cases h) ?_
 unfold ir26
 rw [b9]
 obtain ⟨b0,b1,b2⟩:=hx
 have hl1:p.uris.length≤1048576:=b1.1
 have h1:=a5v p.uris k (by omega) hl1
 have h2:=b5t p.rules (k+p.uris.length) b2 (by omega)
 rw [Nat.one_mul] at h1
 obtain ⟨m,hm⟩:∃ m,k+p.uris.length=m:=⟨_,rfl⟩
 rw [hm] at h1 h2 ⊢
 simp [num,tx,X8,n9,S4,a0j]
 refine rowC (by simp [PV.plain1]) rfl rfl rfl h1 rfl ?_
 simp [num,tx,X8,n9,S4,a0j]
 refine callU (G:=S4 p.rules) (fun k i=>k == 9 || k == 2 && i == 0) h2 ?_ ?_ ?_
 · intro q hq
   simp only [List.mem_cons,List.not_mem_nil,or_false] at hq
   rcases hq with rfl | rfl
   · exact a1p (by simp)
   · exact a2c
 · intro k i hk' hl
   obtain ⟨e1,e2,_⟩:=a2w p.rules k i (S:=TD fun k i=>k == 9 || k == 2 && i == 0) (fun k j h=>by subst h;simp) hl
   refine ⟨e1,?_,e2⟩
   have h5:¬ (k=1∧i=0):=by simp at e1;omega
   simp [hk',h5,n9]
   rw [b4t _ _ _ _ fun k j h=>by simp]
 simp [num]
 refine c2r ?_
 simp [H7,a3j,num]
end Go.Proofs
end
