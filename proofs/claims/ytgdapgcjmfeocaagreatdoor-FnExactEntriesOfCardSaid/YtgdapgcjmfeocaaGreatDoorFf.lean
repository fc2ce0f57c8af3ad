/- Ff: merged out of KXf. -/
import Derived.Test.YtgdapgcjmfeocaaGreatDoorFd
import Derived.Test.YtgdapgcjmfeocaaGreatDoorFc
import Derived.Test.YtgdapgcjmfeocaaGreatDoorEg
import Derived.Test.YtgdapgcjmfeocaaGreatDoorCd
import Derived.Test.YtgdapgcjmfeocaaGreatDoorBa
set_option linter.unusedSectionVars false
set_option linter.unusedSimpArgs false
set_option linter.unusedVariables false
set_option maxRecDepth 100000
section
namespace Go.Proofs
open Go.PW Go.KP
attribute [local simp] RV.cells RV.one PV.cells PV.solid PV.one vals? allVal mkAgg setAt RV.ofCells elems PV.killL
variable [GH]
def lentries (l:List LEntry) (id:Int):List LEntry:=l.filter fun e=>decide (e.id=id)
theorem lentries_take (l:List LEntry) (id:Int) (i:Nat) (h:i < l.length):lentries (l.take (i+1)) id=lentries (l.take i) id++(if l[i].id=id then [l[i]] else []):=by
 unfold lentries
 rw [List.take_add_one,List.getElem?_eq_getElem h,List.filter_append]
 congr 1
 by_cases h:l[i].id=id<;>simp [h]
theorem lentries_len (l:List LEntry) (id:Int) (i:Nat):(lentries (l.take i) id).length≤i:=Nat.le_trans (List.length_filter_le _ _) (by simp;omega)
theorem i_entries (p:LPipe) (id:Int) (hb:bdPipe 1048576 p):CallOK Tryz.prog 51 [.val (rvPipe p),.val (num id)] (.ret (.own 0) [⟨83,3,(lentries p.log id).map rvEntry⟩]) []:=by
 have hll:p.log.length≤1048576:=hb.2.2.1
 refine call_mk (mk:=fun i=>.own i) mixed ok51 rfl (fun _=>rfl) ?_
 unfold ir51
 rw [evalC_intro]
 simp [initSt,avPVs,avPV,avBoxesL,avBoxes,rvPipe,tx,num]
 refine loop_EC (X:=Nat) (fun i=>⟨envOf [(1,.val (num id)),(5,.own 8),(10,.val (.list 3 (p.log.map rvEntry))),(11,.val (num p.log.length)),(12,.val (num i))],memOf [(8,.row 83 3 ((lentries (p.log.take i) id).map rvEntry))]⟩) (fun i=>i≤p.log.length) (fun i=>p.log.length - i) 0 (Le.mk _ _ ?_ ?_) (Nat.zero_le _) ?_
 · simp [num,PV.kill]
 · simp [lentries]
 · intro i hi
   simp [num]
   refine iteP_intro (fun h1=>?_) (fun h1=>?_)
   · obtain ⟨e,he⟩:∃ e,p.log[i]=e:=⟨_,rfl⟩
     have hst:=lentries_take p.log id i h1
     have hln:=lentries_len p.log id i
     rw [he] at hst
     simp [num,h1,he,rvEntry]
     by_cases hid:e.id=id
     · rw [if_pos hid] at hst
       simp [num,hid,rvEntry]
       refine ⟨by omega,by omega,?_⟩
       refine LoopNext.mk (i+1) h1 (by omega) (Le.mk _ _ ?_ ?_)
       · simp [num];exact wrap_i64 (by omega) (by omega)
       · simp [hst,rvEntry,num,hid]
     · rw [if_neg hid,List.append_nil] at hst
       simp [num,hid]
       refine LoopNext.mk (i+1) h1 (by omega) (Le.mk _ _ ?_ ?_)
       · simp [num];exact wrap_i64 (by omega) (by omega)
       · simp [hst]
   · have e:i=p.log.length:=by omega
     subst e
     simp [num]
theorem c_l09Entries (p:LPipe) (id:Int) (hb:bdPipe 1048576 p):CallOK Tryz.prog 50 [.val (rvPipe p),.val (num id)] (.ret (.val (.list 3 ((lentries p.log id).map rvEntry))) []) []:=by
 have hll:p.log.length≤1048576:=hb.2.2.1
 refine call_val mixed ok50 rfl (fun _=>rfl) ?_
 unfold ir50
 rw [evalC_intro]
 simp [initSt,avPVs,avPV,avBoxesL,avBoxes,rvPipe,tx,num]
 refine loop_EC (X:=Nat) (fun i=>⟨envOf [(1,.val (num id)),(2,.ptr 2 0),(5,.own 7),(6,.val (num i))],memOf [(2,pBox p),(7,.row 83 3 ((lentries (p.log.take i) id).map rvEntry))]⟩) (fun i=>i≤p.log.length) (fun i=>p.log.length - i) 0 (Le.mk _ _ ?_ ?_) (Nat.zero_le _) ?_
 · simp [num,PV.kill]
 · simp [lentries,pBox,tx,num,MObj.kill,PV.kill]
 · intro i hi
   simp [num,pBox,tx]
   refine iteP_intro (fun h1=>?_) (fun h1=>?_)
   · obtain ⟨e,he⟩:∃ e,p.log[i]=e:=⟨_,rfl⟩
     have hst:=lentries_take p.log id i h1
     have hln:=lentries_len p.log id i
     rw [he] at hst
     simp [num,h1,he,rvEntry]
     by_cases hid:e.id=id
     · rw [if_pos hid] at hst
       simp [num,hid,h1,he,rvEntry]
       refine ⟨by omega,by omega,?_⟩
       refine LoopNext.mk (i+1) h1 (by omega) (Le.mk _ _ ?_ ?_)
       · simp [num];exact wrap_i64 (by omega) (by omega)
       · simp [hst,rvEntry,num,hid,pBox,tx]
     · rw [if_neg hid,List.append_nil] at hst
       simp [num,hid]
       refine LoopNext.mk (i+1) h1 (by omega) (Le.mk _ _ ?_ ?_)
       · simp [num];exact wrap_i64 (by omega) (by omega)
       · simp [hst,pBox,tx,num]
   · have e:i=p.log.length:=by omega
     subst e
     simp [num,frzOf,PV.pl]
def leR (p:LPipe) (id:Int):List LEntry:=if lpipeOK p then lentries p.log id else []
def leC (p:LPipe):Int:=if lpipeOK p then 0 else 1
theorem leR_len (p:LPipe) (id:Int) (hb:bdPipe 1048576 p):(leR p id).length≤1048576:=by
 have hll:p.log.length≤1048576:=hb.2.2.1
 unfold leR
 split
 · exact Nat.le_trans (List.length_filter_le _ _) hll
 · simp
theorem c_EntriesOf (p:LPipe) (id:Int) (hb:bdPipe 1048576 p):CallOK Tryz.prog 16 [.val (rvPipe p),.val (num id)] (.ret (.tup [.val (.list 3 ((leR p id).map rvEntry)),.val (num (leC p))]) []) []:=by
 refine call_val mixed ok16 rfl (fun _=>rfl) ?_
 unfold ir16
 rw [evalC_intro]
 unfold leR leC
 simp [initSt,avPVs,avPV,avBoxesL,avBoxes,rvPipe,tx,num,allVal]
 refine callS_val rfl rfl (.inl rfl) (c_l08OK p hb) ?_
 cases hok:lpipeOK p with
 | false=>simp [num,frzOf,PV.pl]
 | true=>
  simp [num,allVal]
  refine callS_val rfl rfl (.inl rfl) (c_l09Entries p id hb) ?_
  simp [num]
theorem i_EntriesOf (p:LPipe) (id:Int) (hb:bdPipe 1048576 p):CallOK Tryz.prog 17 [.val (rvPipe p),.val (num id)] (.ret (.tup [.own 0,.val (num (leC p))]) [⟨83,3,(leR p id).map rvEntry⟩]) []:=by
 refine call_mkA (mk:=fun i=>.tup [.own i,.val (num (leC p))]) mixed ok17 rfl (fun _=>rfl) ?_
 unfold ir17
 rw [evalC_intro]
 unfold leR leC
 simp [initSt,avPVs,avPV,avBoxesL,avBoxes,rvPipe,tx,num,allVal]
 refine callS_val rfl rfl (.inl rfl) (i_PipeOK p hb) ?_
 cases hok:lpipeOK p with
 | false=>
  simp [num]
  exact retT_emp 3 4 (by omega) (.inl (by omega)) (by omega) (by simp) (by simp)
 | true=>
  simp [num,allVal]
  refine callS_mk rfl rfl rfl (.inl rfl) (i_entries p id hb) ?_
  simp [num,rowBase,PV.shift]
  exact retT_own 12000 (by simp) (by simp) (by simp)
attribute [local simp] TD_DN TD_lo nK_lo nK_DN nM_lo nM_DN dyn_DN dyn_lo isD_lo DN_lo DN_lo' DN_inj DN_isD dK_lo dK_DN dM_lo dM_DN inR rowsMem
theorem law_EntriesOf (p:LPipe) (id:Int) (hb:bdPipe 9223372036854775807 p):CallOK Tryz.prog 5 [.val (rvPipe p),.val (num id)] (.ret (.val (.bool true)) []) []:=by
 refine call_val mixed ok5 rfl (fun _=>rfl) ?_
 unfold ir5
 rw [evalC_intro]
 simp [initSt,avPVs,avPV,avBoxesL,avBoxes,rvPipe,tx,num,allVal]
 refine callS_val rfl rfl (.inl rfl) (g_szPipe p 1048576 (by omega) (by omega) hb) ?_
 by_cases hz:cut 1048576 (zPipe p) < 0
 · simp [num,hz]
 · obtain ⟨hz1,_⟩:=cut_small hz (by omega)
   have hs:bdPipe 1048576 p:=zPipe_bd (by omega)
   have hcnt:=cntPipe_le p
   simp [num,hz,allVal]
   refine callS_val rfl rfl (.inl rfl) (x_toPipe p hs) ?_
   simp [allVal,num]
   refine callS_two rfl rfl (.inl rfl) (c_EntriesOf p id hs) ?_
   simp [allVal,rvPipe,tx,num]
   refine callN (rs:=[rvPipe p]) TPipe rfl (d_toPipe p hs) (fun k i hk hl=>⟨mDPipe_ok p k i hl,mDPipe_on p k i,mDPipe_box p k i⟩) (cDPipe_on p) ?_
   simp [allVal,tx,num,cDPipe,TPipe,PV.kill,mDPipe,mDPolicy,mDRule,oDRule,mDChannel,oDChannel,mDWire,oDWire]
   have hlen:(leR p id).length≤1048576:=leR_len p id hs
   refine callR (rs:=[rvPipe p,num id]) TPipe (mDPipe p) (i_EntriesOf p id hs) rfl (fun k j hk hT=>?_) (fun k j hk=>⟨mDPipe_on p k j,mDPipe_box p k j⟩) (fun M hM j hj=>?_) ?_ rfl (by simp [PV.flat,PV.flat.go,RV.flat,num]) ?_ (by omega) (by simp) ?_
   · simp [hk,hT,mDPipe_k8]
   · have:j=0∨j=1:=by simp at hj;omega
     rcases this with rfl | rfl
     · exact res_pipe p M hM
     · exact .val _
   · intro q hq
     simp only [List.mem_cons,List.not_mem_nil,or_false] at hq
     rcases hq with rfl | rfl
     · exact cDPipe_on p
     · exact onT_val
   · intro r hr x hx
     rw [List.mem_singleton.1 hr] at hx
     exact flat_map (fun _=>rfl) _ x hx
   simp [allVal,tx,num,PV.shift,PV.shiftL,rowBase,inR,rowsMem]
   refine callS_val rfl rfl (.inr rfl) (g_eqEntryS (leR p id) hlen) ?_
   simp [allVal,tx,num]
   refine callX_val rfl rfl (.inl rfl) (x_toPipe p hs) ?_
   simp [allVal,tx,num,PV.kill]
   refine callR (rs:=[rvPipe p,rvPipe p]) TPipe (mDPipe p) (g_eqPipe p hs) rfl (fun k j hk hT=>?_) (fun k j hk=>⟨mDPipe_on p k j,mDPipe_box p k j⟩) (fun M hM j hj=>?_) ?_ rfl rfl ?_ (by omega) (by simp) ?_
   · simp [hk,hT,mDPipe_k8]
   · have:j=0∨j=1:=by simp at hj;omega
     rcases this with rfl | rfl
     · exact res_pipe p M hM
     · exact .val _
   · intro q hq
     simp only [List.mem_cons,List.not_mem_nil,or_false] at hq
     rcases hq with rfl | rfl
     · exact cDPipe_on p
     · exact onT_val
   · intro r hr;cases hr
   simp [allVal,tx,num,PV.shift,PV.kill,rowBase]
   have hmk:=d_markPipe p 1 hs (by omega)
   obtain ⟨mk,hmk0⟩:∃ m,1+cntPipe p=m:=⟨_,rfl⟩
   rw [hmk0] at hmk
   have hne1:¬ (mk:Int) < 0:=by omega
   have hm:=h_markEntryS (leR p id) 1 (by omega) hlen
   have hh:=h_heldEntryS (leR p id).length 1 (by omega) hlen
   obtain ⟨m1,hm1⟩:∃ m,1+3*(leR p id).length=m:=⟨_,rfl⟩
   rw [hm1] at hm hh
   have hne2:¬ (m1:Int) < 0:=by omega
   refine callU (G:=mDPipe p) TPipe hmk ?_ (fun k j hk hl=>⟨mDPipe_ok p k j hl,?_,mDPipe_on p k j⟩) ?_
   · intro q hq
     simp only [List.mem_cons,List.not_mem_nil,or_false] at hq
     rcases hq with rfl | rfl
     · exact cDPipe_on p
     · exact onT_val
   · have hT:=mDPipe_ok p k j hl
     simp [hk,hT,mDPipe_k8]
   simp [allVal,tx,num,PV.kill,TPipe,hne1]
   refine callS_val rfl rfl (.inr rfl) (g_eqEntryS (leR p id) hlen) ?_
   simp [allVal,tx,num,PV.kill,hne1,hne2]
   refine rowC rfl rfl rfl rfl hm rfl ?_
   simp [allVal,tx,num,PV.kill,hne1,hne2]
   refine callS_val rfl rfl (.inr rfl) hh ?_
   simp [allVal,tx,num,PV.kill,hne1,hne2]
   refine callS_val rfl rfl (.inl rfl) (x_toPipe p hs) ?_
   simp [allVal,rvPipe,tx,num,PV.kill]
   refine callS_mk rfl rfl rfl (.inl rfl) (i_EntriesOf p id hs) ?_
   simp [allVal,tx,num,PV.kill,PV.shift,PV.shiftL,rowBase]
   refine callS_val rfl rfl (.inr rfl) (g_eqEntryS (leR p id) hlen) ?_
   simp [allVal,tx,num,PV.kill]
   refine callS_val rfl rfl (.inr rfl) hh ?_
   simp [allVal,tx,num,PV.kill,hne2]
end Go.Proofs
end
