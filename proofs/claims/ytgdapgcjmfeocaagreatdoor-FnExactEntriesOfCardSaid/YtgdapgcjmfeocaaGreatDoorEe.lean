/- Ee: merged out of KIi, KIq, KIw. -/
import Derived.Test.YtgdapgcjmfeocaaGreatDoorEb
import Derived.Test.YtgdapgcjmfeocaaGreatDoorCa
import Derived.Test.YtgdapgcjmfeocaaGreatDoorAc
import Derived.Test.YtgdapgcjmfeocaaGreatDoorBa
import Derived.Test.YtgdapgcjmfeocaaGreatDoorEa
set_option linter.unusedSectionVars false
set_option linter.unusedSimpArgs false
set_option linter.unusedVariables false
set_option maxRecDepth 100000
section
namespace Go.Proofs
open Go.PW Go.KP
attribute [local simp] RV.cells RV.one PV.cells PV.solid PV.one vals? allVal mkAgg setAt RV.ofCells elems PV.killL
variable [GH]
theorem any_url (l:List LTarget) (url:Tx):(l.any fun x=>decide (x.url=url))=decide (url∈l.map fun t=>t.url):=by
 rw [Bool.eq_iff_iff]
 simp only [List.any_eq_true,decide_eq_true_eq,List.mem_map]
theorem i_areUnlike (l:List LTarget) (hl:l.length < 1099511627776):CallOK Tryz.prog 166 [.val (.list 3 (l.map rvTarget))] (.ret (.val (.bool (tunlike l))) []) []:=by
 refine call_val mixed ok166 rfl (fun _=>rfl) ?_
 unfold ir166
 rw [evalC_intro]
 simp [initSt,avPVs,avPV,avBoxesL,avBoxes]
 refine loop_EC (X:=Nat) (fun i=>⟨envOf [(0,.val (.list 3 (l.map rvTarget))),(5,.val (.list 3 (l.map rvTarget))),(6,.val (num l.length)),(7,.val (num i))],memOf []⟩) (fun i=>i≤l.length∧tunlike (l.take i)=true) (fun i=>l.length - i) 0 (Le.mk _ _ ?_ ?_) ?_ ?_
 · simp [upd,num]
 · simp
 · simp [tunlike,lunlike]
 · rintro i ⟨hi,hinv⟩
   simp [num]
   refine iteP_intro (fun h1=>?_) (fun h1=>?_)
   · have e1:=targets_at h1
     simp [num,h1,e1,rvTarget,tx,show i≤l.length by omega]
     have hh:=i_hasUrl (l.take i) l[i].url (by simp;omega)
     rw [any_url,List.map_take] at hh
     refine callS_val rfl rfl (.inl rfl) hh ?_
     have ht:=tunlike_take l i h1
     by_cases hm:l[i].url∈(l.take i).map fun t=>t.url
     · rw [decide_eq_true hm]
       have:tunlike l=false:=tunlike_false l (i+1) (by rw [ht,hinv,decide_eq_false (fun h=>h hm)];rfl)
       rw [this]
       simp
     · rw [decide_eq_false hm]
       simp
       refine LoopNext.mk (i+1) ⟨by omega,?_⟩ (by omega) (Le.mk _ _ ?_ ?_)
       · rw [ht,hinv,decide_eq_true hm];rfl
       · simp [num];exact wrap_i64 (by omega) (by omega)
       · simp
   · have e:i=l.length:=by omega
     subst e
     rw [List.take_length] at hinv
     rw [hinv]
     simp
def tgs (l:List LPeer):List LTarget:=l.map fun p=>p.target
theorem i_targetsOf (l:List LPeer) (hl:l.length < 1099511627776):CallOK Tryz.prog 129 [.val (rvPeers l)] (.ret (.val (.list 3 ((tgs l).map rvTarget))) []) []:=by
 refine call_val mixed ok129 rfl (fun _=>rfl) ?_
 unfold ir129
 rw [evalC_intro]
 simp [initSt,avPVs,avPV,avBoxesL,avBoxes,rvPeers,elems]
 refine loop_EC (X:=Nat) (fun i=>⟨envOf [(3,.own 6),(7,.val (rvPeers l)),(8,.val (num l.length)),(9,.val (num i))],memOf [(6,.row 162 3 ((tgs (l.take i)).map rvTarget))]⟩) (fun i=>i≤l.length) (fun i=>l.length - i) 0 (Le.mk _ _ ?_ ?_) ?_ ?_
 · simp [upd,num,rvPeers,PV.kill]
 · simp [upd,tgs]
 · simp
 · intro i hi
   simp [num,rvPeers]
   refine iteP_intro (fun h1=>?_) (fun h1=>?_)
   · have e1:=peers_at h1
     rw [List.getD_eq_getElem?_getD] at e1
     have hlen:(tgs (l.take i)).length=i:=by simp [tgs];omega
     have hsucc:(tgs (l.take (i+1))).map rvTarget=(tgs (l.take i)).map rvTarget++[rvTarget l[i].target]:=by
      unfold tgs
      rw [List.take_add_one,List.getElem?_eq_getElem h1,List.map_append,List.map_append]
      rfl
     simp [num,rvPeers,h1,e1,rvPeer,tx,elems,allVal,hlen,RV.one]
     refine ⟨by omega,by omega,?_⟩
     refine LoopNext.mk (i+1) (by omega) (by omega) (Le.mk _ _ ?_ ?_)
     · simp [rvPeers,num];exact wrap_i64 (by omega) (by omega)
     · rw [hsucc]
       simp [rvTarget,num,tx]
   · have e1:i=l.length:=by omega
     subst e1
     simp [num,rvPeers,frzOf]
structure JP (st:St) (x:LPeer):Prop where
 e1:st.env 1=.ptr 1 0
 m1:st.mem 1=.box (peerCells x)
section
variable {Ks:Kx (St→Prop)} {kx:Kx (RV→St→Prop)} {st:St} {x:LPeer} {b:Bool}
theorem qops20 (h:JP st x) (hb:st.env 19=.val (.bool b)) (hK:∀ st',st'.env 2=.val (.bool (b || pb36 x))→Ks.k st'):EO Tryz.prog ir171_o20 st (Ks:=Ks) (kx:=kx):=by
 unfold ir171_o20
 cases b with
 | true=>
  simp [hb]
  exact hK _ (by simp)
 | false=>
  by_cases h0:x.fails=0
  · by_cases h1:x.retry=0
    · simp [hb,h.e1,h.m1,peerCells,num,h0,h1]
      exact hK _ (by simp [pb36,h0,h1])
    · simp [hb,h.e1,h.m1,peerCells,num,h0,h1]
      exact hK _ (by simp [pb36,h0,h1])
  · simp [hb,h.e1,h.m1,peerCells,num,h0]
    exact hK _ (by simp [pb36,h0])
theorem qops14 (h:JP st x) (hb:st.env 13=.val (.bool b)) (hK:∀ st',st'.env 2=.val (.bool (b || pb30 x))→Ks.k st'):EO Tryz.prog ir171_o14 st (Ks:=Ks) (kx:=kx):=by
 unfold ir171_o14
 cases b with
 | true=>
  simp [hb]
  refine qops20 (x:=x) (b:=true) ⟨?_,?_⟩ ?_ (fun st' q2=>hK st' (by simpa using q2))<;>simp [h.e1,h.m1]
 | false=>
  simp [hb,h.e1,h.m1,peerCells,num]
  refine callS_val rfl rfl (.inl rfl) (i_within x.retry 0 1000032) ?_
  simp [hb]
  refine qops20 (x:=x) (b:=!decide (0≤x.retry∧x.retry≤1000032)) ⟨?_,?_⟩ ?_ (fun st' q2=>hK st' (by rw [q2];simp [pb30]))<;>simp [h.e1,h.m1]
theorem qops8 (h:JP st x) (hb:st.env 7=.val (.bool b)) (hK:∀ st',st'.env 2=.val (.bool (b || pb24 x))→Ks.k st'):EO Tryz.prog ir171_o8 st (Ks:=Ks) (kx:=kx):=by
 unfold ir171_o8
 cases b with
 | true=>
  simp [hb]
  refine qops14 (x:=x) (b:=true) ⟨?_,?_⟩ ?_ (fun st' q2=>hK st' (by simpa using q2))<;>simp [h.e1,h.m1]
 | false=>
  simp [hb,h.e1,h.m1,peerCells,num]
  refine callS_val rfl rfl (.inl rfl) (i_within x.fails 0 1000000) ?_
  simp [hb]
  refine qops14 (x:=x) (b:=!decide (0≤x.fails∧x.fails≤1000000)) ⟨?_,?_⟩ ?_ (fun st' q2=>hK st' (by rw [q2];simp [pb24]))<;>simp [h.e1,h.m1]
end
theorem i_PeersOK1 (x:LPeer) (hx:x.target.url.length < 1048577):CallOK Tryz.prog 171 [.val (rvPeer x)] (.ret (.val (.bool (!lpeerOK x))) []) []:=by
 refine call_val mixed ok171 rfl (fun _=>rfl) ?_
 unfold ir171
 rw [evalC_intro,lpeerOK_eq,Bool.not_not]
 simp [initSt,avPVs,avPV,avBoxesL,avBoxes,rvPeer,tx,num,allVal]
 refine callS_val rfl rfl (.inl rfl) (i_targetOK x.target hx) ?_
 simp
 refine qops8 (x:=x) (b:=!ltargetOK x.target) ⟨?_,?_⟩ ?_ (fun st' q=>?_)
 · simp
 · simp [peerCells,tx,num]
 · simp
 · simp [q]
theorem i_IndexFuncP (l:List LPeer) (g:Nat) (p:LPeer→Bool) (hl:l.length < 1099511627776) (hg:fnB Tryz.prog g=true)
 (hp:∀ x∈l,CallOK Tryz.prog g [.val (rvPeer x)] (.ret (.val (.bool (p x))) []) []) :
 CallOK Tryz.prog 206 [.val (rvPeers l),.fn g []] (.ret (.val (num (lidx l p))) []) []:=by
 refine call_val mixed ok206 rfl (fun _=>rfl) ?_
 unfold ir206
 rw [evalC_intro]
 simp [initSt,avPVs,avPV,avBoxesL,avBoxes,avPV,avPVs,rvPeers]
 refine loop_EC (X:=Nat) (fun i=>⟨envOf [(0,.val (rvPeers l)),(1,.fn g []),(7,.val (num l.length)),(8,.val (num i))],memOf []⟩) (fun i=>i≤l.length∧∀ k (hk:k < i) (hk':k < l.length),p l[k]=false) (fun i=>l.length - i) 0 (Le.mk _ _ ?_ ?_) ?_ ?_
 · simp [upd,num,rvPeers]
 · simp
 · simp
 · rintro i ⟨hi,hne⟩
   simp [num,rvPeers]
   refine iteP_intro (fun h1=>?_) (fun h1=>?_)
   · have e1:=peers_at h1
     rw [List.getD_eq_getElem?_getD] at e1
     simp [num,rvPeers,h1,e1,rvPeer,tx,hg]
     refine callS_val rfl rfl (.inl rfl) (hp l[i] (List.getElem_mem h1)) ?_
     cases hpi:p l[i] with
     | true=>
      simp
      rw [lidx_hit h1 hpi (fun k hk=>hne k hk (by omega))];rfl
     | false=>
      simp
      refine LoopNext.mk (i+1) ⟨by omega,fun k hk hk'=>?_⟩ (by omega) (Le.mk _ _ ?_ ?_)
      · by_cases e:k=i
        · subst e;exact hpi
        · exact hne k (by omega) hk'
      · simp [num,rvPeers];exact wrap_i64 (by omega) (by omega)
      · simp
   · have e:i=l.length:=by omega
     subst e
     simp [num]
     rw [lidx_none (fun k hk=>hne k hk hk)]
theorem i_ContainsFuncP (l:List LPeer) (g:Nat) (p:LPeer→Bool) (hl:l.length < 1099511627776) (hg:fnB Tryz.prog g=true)
 (hp:∀ x∈l,CallOK Tryz.prog g [.val (rvPeer x)] (.ret (.val (.bool (p x))) []) []) :
 CallOK Tryz.prog 170 [.val (rvPeers l),.fn g []] (.ret (.val (.bool (l.any p))) []) []:=by
 refine call_val mixed ok170 rfl (fun _=>rfl) ?_
 unfold ir170
 rw [evalC_intro,← lidx_ge l p]
 simp [initSt,avPVs,avPV,avBoxesL,avBoxes,avPV,avPVs,rvPeers]
 refine callS_val rfl rfl (.inl rfl) (i_IndexFuncP l g p hl hg hp) ?_
 simp [num]
theorem i_PeersOK (l:List LPeer) (hl:l.length < 1099511627776) (hs:∀ p∈l,p.target.url.length < 1048577):CallOK Tryz.prog 127 [.val (rvPeers l)] (.ret (.val (.bool (lpeersOK l))) []) []:=by
 refine call_val mixed ok127 rfl (fun _=>rfl) ?_
 unfold ir127
 rw [evalC_intro]
 by_cases h4:4 < l.length
 · have h4':(4:Int) < l.length:=by omega
   have e:lpeersOK l=false:=by
    unfold lpeersOK
    rw [decide_eq_false (by omega)];rfl
   simp [initSt,avPVs,avPV,avBoxesL,avBoxes,rvPeers,h4',e]
 · have h4':¬ (4:Int) < l.length:=by omega
   have e:lpeersOK l=(tunlike (tgs l) && !(l.any fun x=>!lpeerOK x)):=by
    unfold lpeersOK tgs
    rw [decide_eq_true (by omega),tunlike_peers,Bool.true_and,Bool.and_comm]
    congr 1
    rw [Bool.eq_iff_iff]
    simp
   rw [e]
   simp [initSt,avPVs,avPV,avBoxesL,avBoxes,rvPeers,h4']
   refine callS_val rfl rfl (.inl rfl) (i_targetsOf l hl) ?_
   simp
   refine callS_val rfl rfl (.inl rfl) (i_areUnlike (tgs l) (by simp [tgs];omega)) ?_
   cases hu:tunlike (tgs l) with
   | false=>simp
   | true=>
    simp only [Bool.true_and]
    simp
    refine callS_val rfl rfl (.inl rfl) (i_ContainsFuncP l 171 (fun x=>!lpeerOK x) hl (by kernel_rfl) (fun x hx=>i_PeersOK1 x (hs x hx))) ?_
    simp
end Go.Proofs
end
section
namespace Go.Proofs
open Go.PW Go.KP
attribute [local simp] RV.cells RV.one PV.cells PV.solid PV.one vals? allVal mkAgg setAt RV.ofCells elems PV.killL
variable [GF]
theorem i_IndexFunc_Target (l:List LTarget) (g:Nat) (p:LTarget→Bool) (hl:l.length < 1099511627776) (hg:fnB Tryz.prog g=true)
 (hp:∀ x∈l,CallOK Tryz.prog g [.val (rvTarget x)] (.ret (.val (.bool (p x))) []) []) :
 CallOK Tryz.prog 205 [.val (.list 3 (l.map rvTarget)),.fn g []] (.ret (.val (num (lidx l p))) []) []:=by
 refine call_val mixed ok205 rfl (fun _=>rfl) ?_
 unfold ir205
 rw [evalC_intro]
 simp [initSt,avPVs,avPV,avBoxesL,avBoxes,avPV,avPVs]
 refine loop_EC (X:=Nat) (fun i=>⟨envOf [(0,.val (.list 3 (l.map rvTarget))),(1,.fn g []),(7,.val (num l.length)),(8,.val (num i))],memOf []⟩) (fun i=>i≤l.length∧∀ k (hk:k < i) (hk':k < l.length),p l[k]=false) (fun i=>l.length - i) 0 (Le.mk _ _ ?_ ?_) ?_ ?_
 · simp [upd,num]
 · simp
 · simp
 · rintro i ⟨hi,hne⟩
   simp [num]
   refine iteP_intro (fun h1=>?_) (fun h1=>?_)
   · have e1:(l.map rvTarget)[i]?.getD .nilptr=rvTarget l[i]:=by simp [List.getElem?_eq_getElem h1]
     simp [num,h1,e1,rvTarget,tx,num,hg]
     refine callS_val rfl rfl (.inl rfl) (hp l[i] (List.getElem_mem h1)) ?_
     cases hpi:p l[i] with
     | true=>
      simp
      rw [lidx_hit h1 hpi (fun k hk=>hne k hk (by omega))];rfl
     | false=>
      simp
      refine LoopNext.mk (i+1) ⟨by omega,fun k hk hk'=>?_⟩ (by omega) (Le.mk _ _ ?_ ?_)
      · by_cases e:k=i
        · subst e;exact hpi
        · exact hne k (by omega) hk'
      · simp [num];exact wrap_i64 (by omega) (by omega)
      · simp
   · have e:i=l.length:=by omega
     subst e
     simp [num]
     rw [lidx_none (fun k hk=>hne k hk hk)]
theorem i_ContainsFunc_Target (l:List LTarget) (g:Nat) (p:LTarget→Bool) (hl:l.length < 1099511627776) (hg:fnB Tryz.prog g=true)
 (hp:∀ x∈l,CallOK Tryz.prog g [.val (rvTarget x)] (.ret (.val (.bool (p x))) []) []) :
 CallOK Tryz.prog 167 [.val (.list 3 (l.map rvTarget)),.fn g []] (.ret (.val (.bool (l.any p))) []) []:=by
 refine call_val mixed ok167 rfl (fun _=>rfl) ?_
 unfold ir167
 rw [evalC_intro]
 simp [initSt,avPVs,avPV,avBoxesL,avBoxes,avPV,avPVs]
 refine callS_val rfl rfl (.inl rfl) (i_IndexFunc_Target l g p hl hg hp) ?_
 simp [num]
 exact lidx_ge l p
end Go.Proofs
end
section
namespace Go.Proofs
open Go.PW Go.KP
attribute [local simp] RV.cells RV.one PV.cells PV.solid PV.one vals? allVal mkAgg setAt RV.ofCells elems PV.killL
variable [GH]
theorem i_GroupOK1 (t:LTarget) (ht:t.url.length < 1048577):CallOK Tryz.prog 168 [.val (rvTarget t)] (.ret (.val (.bool (!ltargetOK t))) []) []:=by
 refine call_val mixed ok168 rfl (fun _=>rfl) ?_
 unfold ir168
 rw [evalC_intro]
 have h:=i_targetOK t ht
 simp [initSt,avPVs,avPV,avBoxesL,avBoxes,rvTarget,tx,num]
 refine callS_val rfl rfl (.inl rfl) h ?_
 simp
theorem groupOK_core (g:LGroup) (b1 b2 b3 b4 b5:Bool) (hW:CallOK Tryz.prog 137 [.val (tx g.name)] (.ret (.val (.bool b1)) []) []) (hA:CallOK Tryz.prog 60 [.val (num g.age),.val (num 1),.val (num 100)] (.ret (.val (.bool b2)) []) [])
 (hT:CallOK Tryz.prog 60 [.val (num g.targets.length),.val (num 1),.val (num 4)] (.ret (.val (.bool b3)) []) []) (hU:CallOK Tryz.prog 166 [.val (.list 3 (g.targets.map rvTarget))] (.ret (.val (.bool b4)) []) [])
 (hC:CallOK Tryz.prog 167 [.val (.list 3 (g.targets.map rvTarget)),.fn 168 []] (.ret (.val (.bool b5)) []) []) :
 CallOK Tryz.prog 126 [.val (rvGroup g)] (.ret (.val (.bool (b1 && b2 && b3 && b4 && !b5))) []) []:=by
 refine call_val mixed ok126 rfl (fun _=>rfl) ?_
 unfold ir126
 rw [evalC_intro]
 simp [initSt,avPVs,avPV,avBoxesL,avBoxes,rvGroup,tx,num]
 refine callS_val rfl rfl (.inl rfl) hW ?_
 cases b1 with
 | false=>simp
 | true=>
  simp [num]
  refine callS_val rfl rfl (.inl rfl) hA ?_
  cases b2 with
  | false=>simp
  | true=>
   simp [num]
   refine callS_val rfl rfl (.inl rfl) hT ?_
   cases b3 with
   | false=>simp
   | true=>
    simp [num]
    refine callS_val rfl rfl (.inl rfl) hU ?_
    cases b4 with
    | false=>simp
    | true=>
     simp [num]
     refine callS_val rfl rfl (.inl rfl) hC ?_
     cases b5<;>simp
theorem i_GroupOK (g:LGroup) (hb:bdGroup 1048576 g):CallOK Tryz.prog 126 [.val (rvGroup g)] (.ret (.val (.bool (lgroupOK g))) []) []:=by
 have hnl:g.name.length≤1048576:=hb.1
 have htl:g.targets.length≤1048576:=hb.2.1
 have hC:=i_ContainsFunc_Target g.targets 168 (fun t=>!ltargetOK t) (by omega) (by kernel_rfl) (fun x hx=>i_GroupOK1 x (by have:=hb.2.2 x hx;unfold bdTarget at this;omega))
 have h:=groupOK_core g _ _ _ _ _ (i_NameOK g.name (by omega)) (i_within g.age 1 100) (i_within g.targets.length 1 4) (i_areUnlike g.targets (by omega)) hC
 have q3:(1≤g.targets.length∧g.targets.length≤4)↔((1:Int)≤g.targets.length∧(g.targets.length:Int)≤4):=by omega
 have e:lgroupOK g=(lword g.name && decide (1≤g.age∧g.age≤100) && decide ((1:Int)≤g.targets.length∧(g.targets.length:Int)≤4) && tunlike g.targets && !(g.targets.any fun t=>!ltargetOK t)):=by
  unfold lgroupOK
  rw [decide_eq_decide.2 q3,tunlike_uniq,List.not_any_eq_all_not]
  simp only [Bool.not_not]
  cases lword g.name<;>cases decide (1≤g.age∧g.age≤100)<;>cases decide ((1:Int)≤g.targets.length∧(g.targets.length:Int)≤4)<;>cases g.targets.all ltargetOK<;>simp
 rw [e]
 exact h
end Go.Proofs
end
