/- Eg: merged out of KIu, KIv, KIx, KIy. -/
import Derived.Test.YtgdapgcjmfeocaaGreatDoorCa
import Derived.Test.YtgdapgcjmfeocaaGreatDoorAc
import Derived.Test.YtgdapgcjmfeocaaGreatDoorBa
import Derived.Test.YtgdapgcjmfeocaaGreatDoorEe
import Derived.Test.YtgdapgcjmfeocaaGreatDoorEc
import Derived.Test.YtgdapgcjmfeocaaGreatDoorCd
import Derived.Test.YtgdapgcjmfeocaaGreatDoorCc
set_option linter.unusedSectionVars false
set_option linter.unusedSimpArgs false
set_option linter.unusedVariables false
set_option maxRecDepth 100000
section
namespace Go.Proofs
open Go.PW Go.KP
attribute [local simp] RV.cells RV.one PV.cells PV.solid PV.one vals? allVal mkAgg setAt RV.ofCells elems PV.killL
variable [GF]
theorem i_IndexFunc_Report_8 (l:List LReport) (g:Nat) (c0_0 c0_1 c0_2 c0_3 c0_4 c0_5 c0_6 c0_7:RV) (p:LReport→Bool) (hl:l.length < 1099511627776) (hg:fnB Tryz.prog g=true)
 (hp:∀ x∈l,CallOK Tryz.prog g [.val (rvReport x),.box [c0_0,c0_1,c0_2,c0_3,c0_4,c0_5,c0_6,c0_7]] (.ret (.val (.bool (p x))) []) [[c0_0,c0_1,c0_2,c0_3,c0_4,c0_5,c0_6,c0_7]]) :
 CallOK Tryz.prog 174 [.val (.list 4 (l.map rvReport)),.fn g [.box [c0_0,c0_1,c0_2,c0_3,c0_4,c0_5,c0_6,c0_7]]] (.ret (.val (num (lidx l p))) []) [[c0_0,c0_1,c0_2,c0_3,c0_4,c0_5,c0_6,c0_7]]:=by
 refine call_valB mixed ok174 rfl (fun _=>rfl) ?_
 unfold ir174
 rw [evalC_intro]
 simp [initSt,avPVs,avPV,avBoxesL,avBoxes,avPV,avPVs]
 refine loop_EC (X:=Nat) (fun i=>⟨envOf [(0,.val (.list 4 (l.map rvReport))),(1,.fn g [.ptr 900 0]),(7,.val (num l.length)),(8,.val (num i))],memOf [(900,.box [.val c0_0,.val c0_1,.val c0_2,.val c0_3,.val c0_4,.val c0_5,.val c0_6,.val c0_7])]⟩) (fun i=>i≤l.length∧∀ k (hk:k < i) (hk':k < l.length),p l[k]=false) (fun i=>l.length - i) 0 (Le.mk _ _ ?_ ?_) ?_ ?_
 · simp [upd,num]
 · simp
 · simp
 · rintro i ⟨hi,hne⟩
   simp [num]
   refine iteP_intro (fun h1=>?_) (fun h1=>?_)
   · have e1:(l.map rvReport)[i]?.getD .nilptr=rvReport l[i]:=by simp [List.getElem?_eq_getElem h1]
     simp [num,h1,e1,rvReport,tx,num,hg]
     refine callS_valB (ids:=[900]) rfl rfl (by simp) (by decide) (by simp [SameB,evalC_skip,evalC_reg,evalC_draw,evalC_seq,evalC_cond,evalC_block,evalC_exit,evalC_ret,then_normal,then_exit,then_ret,then_pan,inBlock_normal,inBlock_ret,inBlock_pan,inBlock_exit,condS_bool,evalOps_nil,evalOps_cons,evalX_nil,evalX_cons,guardS_none,guardS_some,setD_some,setD_none,ev_t,ev_k,Option.getD_some,Option.getD_none,stepE_mov,stepE_pick,stepE_alloc,stepE_box,stepE_build,stepE_store,stepE_app,stepE_nilck,stepE_bin,stepE_eqb,stepE_eqs,stepE_un,stepE_conv,stepE_faddr,stepE_fld,stepE_load,stepE_iaddr,stepE_idx,stepE_slc,stepE_ext,stepE_lens,stepE_len,stepE_tostr,stepE_mkfn,stepE_ifc,stepE_mn,stepE_mx,stepE_mx4,stepE_mks,stepE_isnil,stepE_lit,stepE_call,stepE_callv,stepX_mov,stepX_nilck,stepX_bin,stepX_eqb,stepX_eqs,stepX_un,stepX_conv,stepX_faddr,stepX_fld,stepX_load,stepX_iaddr,stepX_idx,stepX_slc,stepX_ext,stepX_lens,stepX_len,stepX_tostr,stepX_mkfn,stepX_ifc,stepX_mn,stepX_mx,stepX_mx4,stepX_pick,stepX_build,stepX_lit,stepX_call,stepX_callv,binS_int,binS_str,binI_add,binI_sub,binI_mul,binI_quo,binI_rem,binI_eql,binI_neq,binI_lss,binI_leq,binI_gtr,binI_geq,binStr_add,binStr_eql,binStr_neq,unS_not,unS_neg,upd_app,envOf_nil,envOf_cons,memOf_nil,memOf_cons,RetP_ret,RetP_normal,resP_t,resP_tt,fin_env,frz_val,frz_emp,frz_own,pl_val,pl_emp,kill_val,kill_own,kill_ptr,kill_emp,kill_elt,kill_at,kill_undef,kill_fn,kill_skip,killM_row,killM_box,killM_dead,Kx_k,fillP_nil,fillP_cons,slc_lo,slc_hi,slc_lohi,slcl_lo,slcl_hi,Option.map_some,Option.map_none,iteP_true,iteP_false,onBool_val,onBool_skip,nilck_ptr,nilck_elt,nilck_at,nilck_fn,eqb_val,eqs_val,conv_val,faddr_ptr,faddr_elt,faddr_at,fld_val,fld_agg,load_ptr,loadBox_box,load_elt,loadRow_row,load_at,iaddr_lst,iaddr_own,iaddrRow_row,idx_val,ext_tup,lens_val,len_val,len_emp,len_own,lenRow_row,tostr_val,tostr_emp,tostr_own,tostrRow_row,ifc_val,mn_val,mx_val,mx4_val,lit_some,fn_fn,mks_val,isnil_nilif,isnil_ifc,isnil_emp,isnil_list,isnil_own,isnilRow_row,store_ptrK,storeBox_box,store_eltK,storeRow_row,add_some,app_own,app_emp,appRow_row,addOf_list,addOf_emp,addOf_own,rowOf_row]) rfl (hp l[i] (List.getElem_mem h1)) ?_
     cases hpi:p l[i] with
     | true=>
      simp [RetB_ret,BoxesAt]
      rw [lidx_hit h1 hpi (fun k hk=>hne k hk (by omega))];rfl
     | false=>
      simp
      refine LoopNext.mk (i+1) ⟨by omega,fun k hk hk'=>?_⟩ (by omega) (Le.mk _ _ ?_ ?_)
      · by_cases e:k=i
        · subst e;exact hpi
        · exact hne k (by omega) hk'
      · simp [num];exact wrap_i64 (by omega) (by omega)
      · simp
   · have e:i=l.length:=by omega
     subst e
     simp [num,RetB_ret,BoxesAt]
     rw [lidx_none (fun k hk=>hne k hk hk)]
theorem i_ContainsFunc_Report_8 (l:List LReport) (g:Nat) (c0_0 c0_1 c0_2 c0_3 c0_4 c0_5 c0_6 c0_7:RV) (p:LReport→Bool) (hl:l.length < 1099511627776) (hg:fnB Tryz.prog g=true)
 (hp:∀ x∈l,CallOK Tryz.prog g [.val (rvReport x),.box [c0_0,c0_1,c0_2,c0_3,c0_4,c0_5,c0_6,c0_7]] (.ret (.val (.bool (p x))) []) [[c0_0,c0_1,c0_2,c0_3,c0_4,c0_5,c0_6,c0_7]]) :
 CallOK Tryz.prog 131 [.val (.list 4 (l.map rvReport)),.fn g [.box [c0_0,c0_1,c0_2,c0_3,c0_4,c0_5,c0_6,c0_7]]] (.ret (.val (.bool (l.any p))) []) [[c0_0,c0_1,c0_2,c0_3,c0_4,c0_5,c0_6,c0_7]]:=by
 refine call_valB mixed ok131 rfl (fun _=>rfl) ?_
 unfold ir131
 rw [evalC_intro]
 simp [initSt,avPVs,avPV,avBoxesL,avBoxes,avPV,avPVs]
 refine callS_valB (ids:=[900]) rfl rfl (by simp) (by decide) (by simp [SameB,evalC_skip,evalC_reg,evalC_draw,evalC_seq,evalC_cond,evalC_block,evalC_exit,evalC_ret,then_normal,then_exit,then_ret,then_pan,inBlock_normal,inBlock_ret,inBlock_pan,inBlock_exit,condS_bool,evalOps_nil,evalOps_cons,evalX_nil,evalX_cons,guardS_none,guardS_some,setD_some,setD_none,ev_t,ev_k,Option.getD_some,Option.getD_none,stepE_mov,stepE_pick,stepE_alloc,stepE_box,stepE_build,stepE_store,stepE_app,stepE_nilck,stepE_bin,stepE_eqb,stepE_eqs,stepE_un,stepE_conv,stepE_faddr,stepE_fld,stepE_load,stepE_iaddr,stepE_idx,stepE_slc,stepE_ext,stepE_lens,stepE_len,stepE_tostr,stepE_mkfn,stepE_ifc,stepE_mn,stepE_mx,stepE_mx4,stepE_mks,stepE_isnil,stepE_lit,stepE_call,stepE_callv,stepX_mov,stepX_nilck,stepX_bin,stepX_eqb,stepX_eqs,stepX_un,stepX_conv,stepX_faddr,stepX_fld,stepX_load,stepX_iaddr,stepX_idx,stepX_slc,stepX_ext,stepX_lens,stepX_len,stepX_tostr,stepX_mkfn,stepX_ifc,stepX_mn,stepX_mx,stepX_mx4,stepX_pick,stepX_build,stepX_lit,stepX_call,stepX_callv,binS_int,binS_str,binI_add,binI_sub,binI_mul,binI_quo,binI_rem,binI_eql,binI_neq,binI_lss,binI_leq,binI_gtr,binI_geq,binStr_add,binStr_eql,binStr_neq,unS_not,unS_neg,upd_app,envOf_nil,envOf_cons,memOf_nil,memOf_cons,RetP_ret,RetP_normal,resP_t,resP_tt,fin_env,frz_val,frz_emp,frz_own,pl_val,pl_emp,kill_val,kill_own,kill_ptr,kill_emp,kill_elt,kill_at,kill_undef,kill_fn,kill_skip,killM_row,killM_box,killM_dead,Kx_k,fillP_nil,fillP_cons,slc_lo,slc_hi,slc_lohi,slcl_lo,slcl_hi,Option.map_some,Option.map_none,iteP_true,iteP_false,onBool_val,onBool_skip,nilck_ptr,nilck_elt,nilck_at,nilck_fn,eqb_val,eqs_val,conv_val,faddr_ptr,faddr_elt,faddr_at,fld_val,fld_agg,load_ptr,loadBox_box,load_elt,loadRow_row,load_at,iaddr_lst,iaddr_own,iaddrRow_row,idx_val,ext_tup,lens_val,len_val,len_emp,len_own,lenRow_row,tostr_val,tostr_emp,tostr_own,tostrRow_row,ifc_val,mn_val,mx_val,mx4_val,lit_some,fn_fn,mks_val,isnil_nilif,isnil_ifc,isnil_emp,isnil_list,isnil_own,isnilRow_row,store_ptrK,storeBox_box,store_eltK,storeRow_row,add_some,app_own,app_emp,appRow_row,addOf_list,addOf_emp,addOf_own,rowOf_row]) rfl (i_IndexFunc_Report_8 l g c0_0 c0_1 c0_2 c0_3 c0_4 c0_5 c0_6 c0_7 p hl hg hp) ?_
 simp [num,RetB_ret,BoxesAt]
 exact lidx_ge l p
theorem i_IndexFunc_Channel_1 (l:List LChannel) (g:Nat) (c0_0:RV) (p:LChannel→Bool) (hl:l.length < 1099511627776) (hg:fnB Tryz.prog g=true)
 (hp:∀ x∈l,CallOK Tryz.prog g [.val (rvChannel x),.box [c0_0]] (.ret (.val (.bool (p x))) []) [[c0_0]]) :
 CallOK Tryz.prog 133 [.val (.list 6 (l.map rvChannel)),.fn g [.box [c0_0]]] (.ret (.val (num (lidx l p))) []) [[c0_0]]:=by
 refine call_valB mixed ok133 rfl (fun _=>rfl) ?_
 unfold ir133
 rw [evalC_intro]
 simp [initSt,avPVs,avPV,avBoxesL,avBoxes,avPV,avPVs]
 refine loop_EC (X:=Nat) (fun i=>⟨envOf [(0,.val (.list 6 (l.map rvChannel))),(1,.fn g [.ptr 900 0]),(7,.val (num l.length)),(8,.val (num i))],memOf [(900,.box [.val c0_0])]⟩) (fun i=>i≤l.length∧∀ k (hk:k < i) (hk':k < l.length),p l[k]=false) (fun i=>l.length - i) 0 (Le.mk _ _ ?_ ?_) ?_ ?_
 · simp [upd,num]
 · simp
 · simp
 · rintro i ⟨hi,hne⟩
   simp [num]
   refine iteP_intro (fun h1=>?_) (fun h1=>?_)
   · have e1:(l.map rvChannel)[i]?.getD .nilptr=rvChannel l[i]:=by simp [List.getElem?_eq_getElem h1]
     simp [num,h1,e1,rvGroup,rvQueue,rvChannel,tx,num,hg]
     refine callS_valB (ids:=[900]) rfl rfl (by simp) (by decide) (by simp [SameB,evalC_skip,evalC_reg,evalC_draw,evalC_seq,evalC_cond,evalC_block,evalC_exit,evalC_ret,then_normal,then_exit,then_ret,then_pan,inBlock_normal,inBlock_ret,inBlock_pan,inBlock_exit,condS_bool,evalOps_nil,evalOps_cons,evalX_nil,evalX_cons,guardS_none,guardS_some,setD_some,setD_none,ev_t,ev_k,Option.getD_some,Option.getD_none,stepE_mov,stepE_pick,stepE_alloc,stepE_box,stepE_build,stepE_store,stepE_app,stepE_nilck,stepE_bin,stepE_eqb,stepE_eqs,stepE_un,stepE_conv,stepE_faddr,stepE_fld,stepE_load,stepE_iaddr,stepE_idx,stepE_slc,stepE_ext,stepE_lens,stepE_len,stepE_tostr,stepE_mkfn,stepE_ifc,stepE_mn,stepE_mx,stepE_mx4,stepE_mks,stepE_isnil,stepE_lit,stepE_call,stepE_callv,stepX_mov,stepX_nilck,stepX_bin,stepX_eqb,stepX_eqs,stepX_un,stepX_conv,stepX_faddr,stepX_fld,stepX_load,stepX_iaddr,stepX_idx,stepX_slc,stepX_ext,stepX_lens,stepX_len,stepX_tostr,stepX_mkfn,stepX_ifc,stepX_mn,stepX_mx,stepX_mx4,stepX_pick,stepX_build,stepX_lit,stepX_call,stepX_callv,binS_int,binS_str,binI_add,binI_sub,binI_mul,binI_quo,binI_rem,binI_eql,binI_neq,binI_lss,binI_leq,binI_gtr,binI_geq,binStr_add,binStr_eql,binStr_neq,unS_not,unS_neg,upd_app,envOf_nil,envOf_cons,memOf_nil,memOf_cons,RetP_ret,RetP_normal,resP_t,resP_tt,fin_env,frz_val,frz_emp,frz_own,pl_val,pl_emp,kill_val,kill_own,kill_ptr,kill_emp,kill_elt,kill_at,kill_undef,kill_fn,kill_skip,killM_row,killM_box,killM_dead,Kx_k,fillP_nil,fillP_cons,slc_lo,slc_hi,slc_lohi,slcl_lo,slcl_hi,Option.map_some,Option.map_none,iteP_true,iteP_false,onBool_val,onBool_skip,nilck_ptr,nilck_elt,nilck_at,nilck_fn,eqb_val,eqs_val,conv_val,faddr_ptr,faddr_elt,faddr_at,fld_val,fld_agg,load_ptr,loadBox_box,load_elt,loadRow_row,load_at,iaddr_lst,iaddr_own,iaddrRow_row,idx_val,ext_tup,lens_val,len_val,len_emp,len_own,lenRow_row,tostr_val,tostr_emp,tostr_own,tostrRow_row,ifc_val,mn_val,mx_val,mx4_val,lit_some,fn_fn,mks_val,isnil_nilif,isnil_ifc,isnil_emp,isnil_list,isnil_own,isnilRow_row,store_ptrK,storeBox_box,store_eltK,storeRow_row,add_some,app_own,app_emp,appRow_row,addOf_list,addOf_emp,addOf_own,rowOf_row]) rfl (hp l[i] (List.getElem_mem h1)) ?_
     cases hpi:p l[i] with
     | true=>
      simp [RetB_ret,BoxesAt]
      rw [lidx_hit h1 hpi (fun k hk=>hne k hk (by omega))];rfl
     | false=>
      simp
      refine LoopNext.mk (i+1) ⟨by omega,fun k hk hk'=>?_⟩ (by omega) (Le.mk _ _ ?_ ?_)
      · by_cases e:k=i
        · subst e;exact hpi
        · exact hne k (by omega) hk'
      · simp [num];exact wrap_i64 (by omega) (by omega)
      · simp
   · have e:i=l.length:=by omega
     subst e
     simp [num,RetB_ret,BoxesAt]
     rw [lidx_none (fun k hk=>hne k hk hk)]
theorem i_IndexFunc_Wire_8 (l:List LWire) (g:Nat) (c0_0 c0_1 c0_2 c0_3 c0_4 c0_5 c0_6 c0_7:RV) (p:LWire→Bool) (hl:l.length < 1099511627776) (hg:fnB Tryz.prog g=true)
 (hp:∀ x∈l,CallOK Tryz.prog g [.val (rvWire x),.box [c0_0,c0_1,c0_2,c0_3,c0_4,c0_5,c0_6,c0_7]] (.ret (.val (.bool (p x))) []) [[c0_0,c0_1,c0_2,c0_3,c0_4,c0_5,c0_6,c0_7]]) :
 CallOK Tryz.prog 135 [.val (.list 7 (l.map rvWire)),.fn g [.box [c0_0,c0_1,c0_2,c0_3,c0_4,c0_5,c0_6,c0_7]]] (.ret (.val (num (lidx l p))) []) [[c0_0,c0_1,c0_2,c0_3,c0_4,c0_5,c0_6,c0_7]]:=by
 refine call_valB mixed ok135 rfl (fun _=>rfl) ?_
 unfold ir135
 rw [evalC_intro]
 simp [initSt,avPVs,avPV,avBoxesL,avBoxes,avPV,avPVs]
 refine loop_EC (X:=Nat) (fun i=>⟨envOf [(0,.val (.list 7 (l.map rvWire))),(1,.fn g [.ptr 900 0]),(7,.val (num l.length)),(8,.val (num i))],memOf [(900,.box [.val c0_0,.val c0_1,.val c0_2,.val c0_3,.val c0_4,.val c0_5,.val c0_6,.val c0_7])]⟩) (fun i=>i≤l.length∧∀ k (hk:k < i) (hk':k < l.length),p l[k]=false) (fun i=>l.length - i) 0 (Le.mk _ _ ?_ ?_) ?_ ?_
 · simp [upd,num]
 · simp
 · simp
 · rintro i ⟨hi,hne⟩
   simp [num]
   refine iteP_intro (fun h1=>?_) (fun h1=>?_)
   · have e1:(l.map rvWire)[i]?.getD .nilptr=rvWire l[i]:=by simp [List.getElem?_eq_getElem h1]
     simp [num,h1,e1,rvWire,tx,num,hg]
     refine callS_valB (ids:=[900]) rfl rfl (by simp) (by decide) (by simp [SameB,evalC_skip,evalC_reg,evalC_draw,evalC_seq,evalC_cond,evalC_block,evalC_exit,evalC_ret,then_normal,then_exit,then_ret,then_pan,inBlock_normal,inBlock_ret,inBlock_pan,inBlock_exit,condS_bool,evalOps_nil,evalOps_cons,evalX_nil,evalX_cons,guardS_none,guardS_some,setD_some,setD_none,ev_t,ev_k,Option.getD_some,Option.getD_none,stepE_mov,stepE_pick,stepE_alloc,stepE_box,stepE_build,stepE_store,stepE_app,stepE_nilck,stepE_bin,stepE_eqb,stepE_eqs,stepE_un,stepE_conv,stepE_faddr,stepE_fld,stepE_load,stepE_iaddr,stepE_idx,stepE_slc,stepE_ext,stepE_lens,stepE_len,stepE_tostr,stepE_mkfn,stepE_ifc,stepE_mn,stepE_mx,stepE_mx4,stepE_mks,stepE_isnil,stepE_lit,stepE_call,stepE_callv,stepX_mov,stepX_nilck,stepX_bin,stepX_eqb,stepX_eqs,stepX_un,stepX_conv,stepX_faddr,stepX_fld,stepX_load,stepX_iaddr,stepX_idx,stepX_slc,stepX_ext,stepX_lens,stepX_len,stepX_tostr,stepX_mkfn,stepX_ifc,stepX_mn,stepX_mx,stepX_mx4,stepX_pick,stepX_build,stepX_lit,stepX_call,stepX_callv,binS_int,binS_str,binI_add,binI_sub,binI_mul,binI_quo,binI_rem,binI_eql,binI_neq,binI_lss,binI_leq,binI_gtr,binI_geq,binStr_add,binStr_eql,binStr_neq,unS_not,unS_neg,upd_app,envOf_nil,envOf_cons,memOf_nil,memOf_cons,RetP_ret,RetP_normal,resP_t,resP_tt,fin_env,frz_val,frz_emp,frz_own,pl_val,pl_emp,kill_val,kill_own,kill_ptr,kill_emp,kill_elt,kill_at,kill_undef,kill_fn,kill_skip,killM_row,killM_box,killM_dead,Kx_k,fillP_nil,fillP_cons,slc_lo,slc_hi,slc_lohi,slcl_lo,slcl_hi,Option.map_some,Option.map_none,iteP_true,iteP_false,onBool_val,onBool_skip,nilck_ptr,nilck_elt,nilck_at,nilck_fn,eqb_val,eqs_val,conv_val,faddr_ptr,faddr_elt,faddr_at,fld_val,fld_agg,load_ptr,loadBox_box,load_elt,loadRow_row,load_at,iaddr_lst,iaddr_own,iaddrRow_row,idx_val,ext_tup,lens_val,len_val,len_emp,len_own,lenRow_row,tostr_val,tostr_emp,tostr_own,tostrRow_row,ifc_val,mn_val,mx_val,mx4_val,lit_some,fn_fn,mks_val,isnil_nilif,isnil_ifc,isnil_emp,isnil_list,isnil_own,isnilRow_row,store_ptrK,storeBox_box,store_eltK,storeRow_row,add_some,app_own,app_emp,appRow_row,addOf_list,addOf_emp,addOf_own,rowOf_row]) rfl (hp l[i] (List.getElem_mem h1)) ?_
     cases hpi:p l[i] with
     | true=>
      simp [RetB_ret,BoxesAt]
      rw [lidx_hit h1 hpi (fun k hk=>hne k hk (by omega))];rfl
     | false=>
      simp
      refine LoopNext.mk (i+1) ⟨by omega,fun k hk hk'=>?_⟩ (by omega) (Le.mk _ _ ?_ ?_)
      · by_cases e:k=i
        · subst e;exact hpi
        · exact hne k (by omega) hk'
      · simp [num];exact wrap_i64 (by omega) (by omega)
      · simp
   · have e:i=l.length:=by omega
     subst e
     simp [num,RetB_ret,BoxesAt]
     rw [lidx_none (fun k hk=>hne k hk hk)]
theorem i_ContainsFunc_Wire_8 (l:List LWire) (g:Nat) (c0_0 c0_1 c0_2 c0_3 c0_4 c0_5 c0_6 c0_7:RV) (p:LWire→Bool) (hl:l.length < 1099511627776) (hg:fnB Tryz.prog g=true)
 (hp:∀ x∈l,CallOK Tryz.prog g [.val (rvWire x),.box [c0_0,c0_1,c0_2,c0_3,c0_4,c0_5,c0_6,c0_7]] (.ret (.val (.bool (p x))) []) [[c0_0,c0_1,c0_2,c0_3,c0_4,c0_5,c0_6,c0_7]]) :
 CallOK Tryz.prog 84 [.val (.list 7 (l.map rvWire)),.fn g [.box [c0_0,c0_1,c0_2,c0_3,c0_4,c0_5,c0_6,c0_7]]] (.ret (.val (.bool (l.any p))) []) [[c0_0,c0_1,c0_2,c0_3,c0_4,c0_5,c0_6,c0_7]]:=by
 refine call_valB mixed ok84 rfl (fun _=>rfl) ?_
 unfold ir84
 rw [evalC_intro]
 simp [initSt,avPVs,avPV,avBoxesL,avBoxes,avPV,avPVs]
 refine callS_valB (ids:=[900]) rfl rfl (by simp) (by decide) (by simp [SameB,evalC_skip,evalC_reg,evalC_draw,evalC_seq,evalC_cond,evalC_block,evalC_exit,evalC_ret,then_normal,then_exit,then_ret,then_pan,inBlock_normal,inBlock_ret,inBlock_pan,inBlock_exit,condS_bool,evalOps_nil,evalOps_cons,evalX_nil,evalX_cons,guardS_none,guardS_some,setD_some,setD_none,ev_t,ev_k,Option.getD_some,Option.getD_none,stepE_mov,stepE_pick,stepE_alloc,stepE_box,stepE_build,stepE_store,stepE_app,stepE_nilck,stepE_bin,stepE_eqb,stepE_eqs,stepE_un,stepE_conv,stepE_faddr,stepE_fld,stepE_load,stepE_iaddr,stepE_idx,stepE_slc,stepE_ext,stepE_lens,stepE_len,stepE_tostr,stepE_mkfn,stepE_ifc,stepE_mn,stepE_mx,stepE_mx4,stepE_mks,stepE_isnil,stepE_lit,stepE_call,stepE_callv,stepX_mov,stepX_nilck,stepX_bin,stepX_eqb,stepX_eqs,stepX_un,stepX_conv,stepX_faddr,stepX_fld,stepX_load,stepX_iaddr,stepX_idx,stepX_slc,stepX_ext,stepX_lens,stepX_len,stepX_tostr,stepX_mkfn,stepX_ifc,stepX_mn,stepX_mx,stepX_mx4,stepX_pick,stepX_build,stepX_lit,stepX_call,stepX_callv,binS_int,binS_str,binI_add,binI_sub,binI_mul,binI_quo,binI_rem,binI_eql,binI_neq,binI_lss,binI_leq,binI_gtr,binI_geq,binStr_add,binStr_eql,binStr_neq,unS_not,unS_neg,upd_app,envOf_nil,envOf_cons,memOf_nil,memOf_cons,RetP_ret,RetP_normal,resP_t,resP_tt,fin_env,frz_val,frz_emp,frz_own,pl_val,pl_emp,kill_val,kill_own,kill_ptr,kill_emp,kill_elt,kill_at,kill_undef,kill_fn,kill_skip,killM_row,killM_box,killM_dead,Kx_k,fillP_nil,fillP_cons,slc_lo,slc_hi,slc_lohi,slcl_lo,slcl_hi,Option.map_some,Option.map_none,iteP_true,iteP_false,onBool_val,onBool_skip,nilck_ptr,nilck_elt,nilck_at,nilck_fn,eqb_val,eqs_val,conv_val,faddr_ptr,faddr_elt,faddr_at,fld_val,fld_agg,load_ptr,loadBox_box,load_elt,loadRow_row,load_at,iaddr_lst,iaddr_own,iaddrRow_row,idx_val,ext_tup,lens_val,len_val,len_emp,len_own,lenRow_row,tostr_val,tostr_emp,tostr_own,tostrRow_row,ifc_val,mn_val,mx_val,mx4_val,lit_some,fn_fn,mks_val,isnil_nilif,isnil_ifc,isnil_emp,isnil_list,isnil_own,isnilRow_row,store_ptrK,storeBox_box,store_eltK,storeRow_row,add_some,app_own,app_emp,appRow_row,addOf_list,addOf_emp,addOf_own,rowOf_row]) rfl (i_IndexFunc_Wire_8 l g c0_0 c0_1 c0_2 c0_3 c0_4 c0_5 c0_6 c0_7 p hl hg hp) ?_
 simp [num,RetB_ret,BoxesAt]
 exact lidx_ge l p
end Go.Proofs
end
section
namespace Go.Proofs
open Go.PW Go.KP
attribute [local simp] RV.cells RV.one PV.cells PV.solid PV.one vals? allVal mkAgg setAt RV.ofCells elems PV.killL
variable [GH]
theorem i_isBody (t:Tx):CallOK Tryz.prog 173 [.val (tx t)] (.ret (.val (.bool (decide (1≤t.length∧t.length≤8000)))) []) []:=by
 have q:(1≤t.length∧t.length≤8000)↔((1:Int)≤t.length∧(t.length:Int)≤8000):=by omega
 have e:decide (1≤t.length∧t.length≤8000)=decide ((1:Int)≤t.length∧(t.length:Int)≤8000):=decide_eq_decide.2 q
 rw [e]
 have h:=i_within t.length 1 8000
 refine call_val mixed ok173 rfl (fun _=>rfl) ?_
 unfold ir173
 rw [evalC_intro]
 simp [initSt,avPVs,avPV,avBoxesL,avBoxes,tx,bs_size,num]
 refine callS_val rfl rfl (.inl rfl) h ?_
 simp
theorem reportOK_core (r:LReport) (b1 b2 b3 b4:Bool) (h1:CallOK Tryz.prog 60 [.val (num r.id),.val (num 1),.val (num 1000000)] (.ret (.val (.bool b1)) []) []) (h2:CallOK Tryz.prog 60 [.val (num r.born),.val (num 0),.val (num 1000000)] (.ret (.val (.bool b2)) []) [])
 (h3:CallOK Tryz.prog 60 [.val (num r.tries),.val (num 0),.val (num 3)] (.ret (.val (.bool b3)) []) []) (h4:CallOK Tryz.prog 173 [.val (tx r.body)] (.ret (.val (.bool b4)) []) []) :
 CallOK Tryz.prog 172 [.val (rvReport r)] (.ret (.val (.bool (b1 && b2 && b3 && b4))) []) []:=by
 refine call_val mixed ok172 rfl (fun _=>rfl) ?_
 unfold ir172
 rw [evalC_intro]
 simp [initSt,avPVs,avPV,avBoxesL,avBoxes,rvReport,tx,num]
 refine callS_val rfl rfl (.inl rfl) h1 ?_
 cases b1 with
 | false=>simp
 | true=>
  simp [num]
  refine callS_val rfl rfl (.inl rfl) h2 ?_
  cases b2 with
  | false=>simp
  | true=>
   simp [num]
   refine callS_val rfl rfl (.inl rfl) h3 ?_
   cases b3 with
   | false=>simp
   | true=>
    simp [num]
    refine callS_val rfl rfl (.inl rfl) h4 ?_
    cases b4<;>simp
theorem i_ReportOK (r:LReport):CallOK Tryz.prog 172 [.val (rvReport r)] (.ret (.val (.bool (lreportOK r))) []) []:=
 reportOK_core r _ _ _ _ (i_within r.id 1 1000000) (i_within r.born 0 1000000) (i_within r.tries 0 3) (i_isBody r.body)
theorem i_isStatus (n:Int):CallOK Tryz.prog 136 [.val (num n)] (.ret (.val (.bool (decide (100≤n∧n≤599)))) []) []:=by
 refine call_val mixed ok136 rfl (fun _=>rfl) ?_
 unfold ir136
 rw [evalC_intro]
 have h:=i_within n 100 599
 simp [initSt,avPVs,avPV,avBoxesL,avBoxes,num]
 refine callS_val rfl rfl (.inl rfl) h ?_
 simp
theorem i_QueueOK (q:LQueue) (hb:bdQueue 1048576 q):CallOK Tryz.prog 130 [.val (rvQueue q)] (.ret (.val (.bool (lqueueOK q))) []) []:=by
 refine call_val mixed ok130 rfl (fun _=>rfl) ?_
 unfold ir130
 rw [evalC_intro]
 by_cases h5:q.items.length≤5
 rotate_left
 · have h5':(5:Int) < q.items.length:=by omega
   have:lqueueOK q=false:=by unfold lqueueOK;rw [decide_eq_false h5];rfl
   simp [initSt,avPVs,avPV,avBoxesL,avBoxes,rvQueue,h5',this]
 have h5':¬ (5:Int) < q.items.length:=by omega
 by_cases h6:q.recent.length≤6
 rotate_left
 · have h6':(6:Int) < q.recent.length:=by omega
   have:lqueueOK q=false:=by unfold lqueueOK;rw [decide_eq_false h6];simp
   simp [initSt,avPVs,avPV,avBoxesL,avBoxes,rvQueue,h5',h6',this]
 have h6':¬ (6:Int) < q.recent.length:=by omega
 have hfin:allN q.items.length (repAt q.items)=true→allN q.recent.length (recAt q.recent)=true→lqueueOK q=true:=fun a b=>by
  unfold lqueueOK;rw [decide_eq_true h5,decide_eq_true h6,a,b];rfl
 simp [initSt,avPVs,avPV,avBoxesL,avBoxes,rvQueue,h5',h6']
 refine loop_EC (X:=Nat) (fun i=>⟨envOf [(1,.ptr 1 0),(18,.val (.list 4 (q.items.map rvReport))),(19,.val (num q.items.length)),(20,.val (num i))],memOf [(1,.box [.val (.list 4 (q.items.map rvReport)),.val (.list 1 (q.recent.map tx))])]⟩) (fun i=>i≤q.items.length∧allN i (repAt q.items)=true) (fun i=>q.items.length - i) 0 (Le.mk _ _ ?_ ?_) ?_ ?_
 · simp [upd,num]
 · simp
 · simp [allN_zero]
 · rintro i ⟨hi,hall⟩
   simp [num]
   refine iteP_intro (fun h1=>?_) (fun h1=>?_)
   · have hbad:=lqueueOK_rep (q:=q) h1
     have hsu:=allN_succ (repAt q.items) i
     rw [hall,Bool.true_and] at hsu
     obtain ⟨r,hr⟩:∃ r,q.items[i]=r:=⟨_,rfl⟩
     have hR:=i_ReportOK r
     have wi:IntKind.i64.wrap ((i:Int)+1)=((i+1:Nat):Int):=by rw [wrap_i64 (by omega) (by omega)];omega
     by_cases h0:i=0
     · subst h0
       rw [repAt_zero h1,hr] at hbad hsu
       simp [num,h1,hr,rvReport,tx,PV.kill,MObj.kill]
       refine callX_val rfl rfl (.inl rfl) hR ?_
       cases hk:lreportOK r with
       | false=>simp [hbad hk]
       | true=>
        simp [num]
        refine LoopNext.mk 1 ⟨by omega,by rw [hsu,hk]⟩ (by omega) (Le.mk _ _ ?_ ?_)
        · simp [num,upd,PV.kill];decide
        · simp [tx,PV.kill,MObj.kill]
     · obtain ⟨j,hij⟩:∃ j,i=j+1:=⟨i - 1,by omega⟩
       have hj:j < q.items.length:=by omega
       obtain ⟨s,hs⟩:∃ s,q.items[j]=s:=⟨_,rfl⟩
       have hra:repAt q.items i=(lreportOK r && (decide (s.id < r.id) && decide (s.born≤r.born))):=by
        subst hij;rw [repAt_succ h1,hr,hs]
       rw [hra] at hbad hsu
       have wj:IntKind.i64.wrap ((i:Int) - 1)=(j:Int):=by rw [wrap_i64 (by omega) (by omega)];omega
       have hp:0 < i:=by omega
       simp [num,h1,hr,rvReport,tx,PV.kill,MObj.kill]
       refine callX_val rfl rfl (.inl rfl) hR ?_
       cases hk:lreportOK r with
       | false=>simp [hbad (by rw [hk];rfl)]
       | true=>
        rw [hk,Bool.true_and] at hbad hsu
        by_cases hA:s.id < r.id
        · have hA':¬ r.id≤s.id:=by omega
          by_cases hB:s.born≤r.born
          · have hB':¬ r.born < s.born:=by omega
            simp [num,h1,hr,hs,hj,hp,wj,rvReport,tx,PV.kill,MObj.kill,hA',hB']
            refine LoopNext.mk (i+1) ⟨by omega,by rw [hsu,decide_eq_true hA,decide_eq_true hB];rfl⟩ (by omega) (Le.mk _ _ ?_ ?_)
            · simp [num,wi,PV.kill]
            · simp [tx,PV.kill,MObj.kill]
          · have hB':r.born < s.born:=by omega
            simp [num,h1,hr,hs,hj,hp,wj,rvReport,tx,PV.kill,MObj.kill,hA',hB',hbad (by rw [decide_eq_false hB,Bool.and_false])]
        · have hA':r.id≤s.id:=by omega
          simp [num,h1,hr,hs,hj,hp,wj,rvReport,tx,PV.kill,MObj.kill,hA',hbad (by rw [decide_eq_false hA,Bool.false_and])]
   · have e:i=q.items.length:=by omega
     subst e
     simp [num]
     refine loop_EC (X:=Nat) (fun i=>⟨envOf [(1,.ptr 1 0),(58,.val (.list 1 (q.recent.map tx))),(59,.val (num q.recent.length)),(60,.val (num i))],memOf [(1,.box [.val (.list 4 (q.items.map rvReport)),.val (.list 1 (q.recent.map tx))])]⟩) (fun i=>i≤q.recent.length∧allN i (recAt q.recent)=true) (fun i=>q.recent.length - i) 0 (Le.mk _ _ ?_ ?_) ?_ ?_
     · simp [upd,num]
     · simp
     · simp [allN_zero]
     · rintro i ⟨hi2,hall2⟩
       simp [num]
       refine iteP_intro (fun h1=>?_) (fun h1=>?_)
       · have hbad:=lqueueOK_rec (q:=q) h1
         have hsu:=allN_succ (recAt q.recent) i
         rw [hall2,Bool.true_and] at hsu
         rw [recAt_eq h1] at hbad hsu
         obtain ⟨r,hr⟩:∃ r,q.recent[i]=r:=⟨_,rfl⟩
         rw [hr] at hbad hsu
         have hR:=i_isBody r
         have hH:=i_Contains_str (q.recent.take i) r (by simp;omega)
         have wi:IntKind.i64.wrap ((i:Int)+1)=((i+1:Nat):Int):=by rw [wrap_i64 (by omega) (by omega)];omega
         have hile:i≤q.recent.length:=by omega
         simp [num,h1,hr,tx,bs_size]
         refine callS_val rfl rfl (.inl rfl) hR ?_
         cases hk:decide (1≤r.length∧r.length≤8000) with
         | false=>simp [hbad (by rw [hk];rfl)]
         | true=>
          rw [hk,Bool.true_and] at hbad hsu
          simp [num,h1,hr,tx,hile,← List.map_take]
          refine callS_val rfl rfl (.inl rfl) hH ?_
          by_cases hm:r∈q.recent.take i
          · simp [hm,hbad (by rw [decide_eq_false (fun h=>h hm)])]
          · simp [hm]
            refine LoopNext.mk (i+1) ⟨by omega,by rw [hsu,decide_eq_true hm]⟩ (by omega) (Le.mk _ _ ?_ ?_)
            · simp [num,wi]
            · simp [tx]
       · have e:i=q.recent.length:=by omega
         subst e
         simp [hfin hall hall2]
def pCells (p:LPipe):List RV:=[.list 6 (p.channels.map rvChannel),tx p.policy.reportTo,.list 1 (p.policy.uris.map tx),.list 2 (p.policy.rules.map rvRule),num p.now,num p.next,.list 3 (p.log.map rvEntry),.list 7 (p.wires.map rvWire)]
theorem i_chanOK1 (r:LReport) (p:LPipe):CallOK Tryz.prog 132 [.val (rvReport r),.box (pCells p)] (.ret (.val (.bool (!(decide (r.id < p.next) && decide (r.born≤p.now))))) []) [pCells p]:=by
 unfold pCells
 refine call_valB mixed ok132 rfl (fun _=>rfl) ?_
 unfold ir132
 rw [evalC_intro]
 by_cases hA:r.id < p.next
 · have hA':¬ p.next≤r.id:=by omega
   by_cases hB:r.born≤p.now
   · have hB':¬ p.now < r.born:=by omega
     simp [initSt,avPVs,avPV,avBoxesL,avBoxes,rvReport,tx,num,hA,hA',hB,hB',RetB_ret,BoxesAt]
   · have hB':p.now < r.born:=by omega
     simp [initSt,avPVs,avPV,avBoxesL,avBoxes,rvReport,tx,num,hA,hA',hB,hB',RetB_ret,BoxesAt]
 · have hA':p.next≤r.id:=by omega
   simp [initSt,avPVs,avPV,avBoxesL,avBoxes,rvReport,tx,num,hA,hA',RetB_ret,BoxesAt]
end Go.Proofs
end
section
namespace Go.Proofs
open Go.PW Go.KP
attribute [local simp] RV.cells RV.one PV.cells PV.solid PV.one vals? allVal mkAgg setAt RV.ofCells elems PV.killL
variable [GH]
theorem i_Equal_Target (a b:List LTarget) (ha:a.length < 1099511627776) (hb:b.length < 1099511627776):CallOK Tryz.prog 128 [.val (.list 3 (a.map rvTarget)),.val (.list 3 (b.map rvTarget))] (.ret (.val (.bool (decide (a=b)))) []) []:=by
 refine call_val mixed ok128 rfl (fun _=>rfl) ?_
 unfold ir128
 rw [evalC_intro]
 by_cases hlen:a.length=b.length
 rotate_left
 · have h1:¬ (a.length:Int)=b.length:=by omega
   have h2:a≠b:=fun e=>hlen (by rw [e])
   simp [initSt,avPVs,avPV,avBoxesL,avBoxes,h1,h2]
 simp [initSt,avPVs,avPV,avBoxesL,avBoxes,num,hlen]
 refine loop_EC (X:=Nat) (fun i=>⟨envOf [(0,.val (.list 3 (a.map rvTarget))),(1,.val (.list 3 (b.map rvTarget))),(12,.val (num b.length)),(13,.val (num i))],memOf []⟩) (fun i=>i≤b.length∧a.take i=b.take i) (fun i=>b.length - i) 0 (Le.mk _ _ ?_ ?_) ?_ ?_
 · simp [upd,num]
 · simp
 · simp
 · rintro i ⟨hi,heq⟩
   simp [num]
   refine iteP_intro (fun h1b=>?_) (fun h1=>?_)
   · have h1:i < a.length:=by omega
     obtain ⟨x,hx⟩:∃ x,a[i]=x:=⟨_,rfl⟩
     obtain ⟨y,hy⟩:∃ y,b[i]=y:=⟨_,rfl⟩
     have hne:x≠y→a≠b:=fun h e=>h (by subst e;rw [← hx,← hy])
     have wi:IntKind.i64.wrap ((i:Int)+1)=((i+1:Nat):Int):=by rw [wrap_i64 (by omega) (by omega)];omega
     by_cases hu:x.url=y.url
     · by_cases hp:x.prio=y.prio
       · by_cases hw:x.weight=y.weight
         · have hxy:x=y:=by
            cases x;cases y
            simp only at hu hp hw
            subst hu;subst hp;subst hw;rfl
           simp [num,h1,h1b,hx,hy,rvTarget,tx,eqCells,eqCell,onSome,bs_inj,hu,hp,hw]
           refine LoopNext.mk (i+1) ⟨by omega,?_⟩ (by omega) (Le.mk _ _ ?_ ?_)
           · rw [List.take_add_one,List.take_add_one,List.getElem?_eq_getElem h1,List.getElem?_eq_getElem h1b,heq,hx,hy,hxy]
           · simp [num,wi]
           · simp
         · simp [num,h1,h1b,hx,hy,rvTarget,tx,eqCells,eqCell,onSome,bs_inj,hu,hp,hw,hne (fun e=>hw (by rw [e]))]
       · simp [num,h1,h1b,hx,hy,rvTarget,tx,eqCells,eqCell,onSome,bs_inj,hu,hp,hne (fun e=>hp (by rw [e]))]
     · simp [num,h1,h1b,hx,hy,rvTarget,tx,eqCells,eqCell,onSome,bs_inj,hu,hne (fun e=>hu (by rw [e]))]
   · have e:i=b.length:=by omega
     subst e
     rw [← hlen,List.take_length,hlen,List.take_length] at heq
     simp [heq]
theorem i_channel1 (c:LChannel) (name:Tx):CallOK Tryz.prog 134 [.val (rvChannel c),.box [tx name]] (.ret (.val (.bool (decide (c.group.name=name)))) []) [[tx name]]:=by
 refine call_valB mixed ok134 rfl (fun _=>rfl) ?_
 unfold ir134
 rw [evalC_intro]
 simp [initSt,avPVs,avPV,avBoxesL,avBoxes,rvChannel,tx,num,bs_inj,RetB_ret,BoxesAt]
theorem i_channel (p:LPipe) (name:Tx) (hl:p.channels.length < 1099511627776):CallOK Tryz.prog 83 [.val (rvPipe p),.val (tx name)] (.ret (.val (num (lidx p.channels fun c=>decide (c.group.name=name)))) []) []:=by
 have h:=i_IndexFunc_Channel_1 p.channels 134 (tx name) (fun c=>decide (c.group.name=name)) hl (by kernel_rfl) (fun c _=>i_channel1 c name)
 refine call_val mixed ok83 rfl (fun _=>rfl) ?_
 unfold ir83
 rw [evalC_intro]
 simp [initSt,avPVs,avPV,avBoxesL,avBoxes,rvPipe,tx,num]
 refine callS_valB (ids:=[3]) rfl rfl (by simp) (by decide) (by simp [SameB,evalC_skip,evalC_reg,evalC_draw,evalC_seq,evalC_cond,evalC_block,evalC_exit,evalC_ret,then_normal,then_exit,then_ret,then_pan,inBlock_normal,inBlock_ret,inBlock_pan,inBlock_exit,condS_bool,evalOps_nil,evalOps_cons,evalX_nil,evalX_cons,guardS_none,guardS_some,setD_some,setD_none,ev_t,ev_k,Option.getD_some,Option.getD_none,stepE_mov,stepE_pick,stepE_alloc,stepE_box,stepE_build,stepE_store,stepE_app,stepE_nilck,stepE_bin,stepE_eqb,stepE_eqs,stepE_un,stepE_conv,stepE_faddr,stepE_fld,stepE_load,stepE_iaddr,stepE_idx,stepE_slc,stepE_ext,stepE_lens,stepE_len,stepE_tostr,stepE_mkfn,stepE_ifc,stepE_mn,stepE_mx,stepE_mx4,stepE_mks,stepE_isnil,stepE_lit,stepE_call,stepE_callv,stepX_mov,stepX_nilck,stepX_bin,stepX_eqb,stepX_eqs,stepX_un,stepX_conv,stepX_faddr,stepX_fld,stepX_load,stepX_iaddr,stepX_idx,stepX_slc,stepX_ext,stepX_lens,stepX_len,stepX_tostr,stepX_mkfn,stepX_ifc,stepX_mn,stepX_mx,stepX_mx4,stepX_pick,stepX_build,stepX_lit,stepX_call,stepX_callv,binS_int,binS_str,binI_add,binI_sub,binI_mul,binI_quo,binI_rem,binI_eql,binI_neq,binI_lss,binI_leq,binI_gtr,binI_geq,binStr_add,binStr_eql,binStr_neq,unS_not,unS_neg,upd_app,envOf_nil,envOf_cons,memOf_nil,memOf_cons,RetP_ret,RetP_normal,resP_t,resP_tt,fin_env,frz_val,frz_emp,frz_own,pl_val,pl_emp,kill_val,kill_own,kill_ptr,kill_emp,kill_elt,kill_at,kill_undef,kill_fn,kill_skip,killM_row,killM_box,killM_dead,Kx_k,fillP_nil,fillP_cons,slc_lo,slc_hi,slc_lohi,slcl_lo,slcl_hi,Option.map_some,Option.map_none,iteP_true,iteP_false,onBool_val,onBool_skip,nilck_ptr,nilck_elt,nilck_at,nilck_fn,eqb_val,eqs_val,conv_val,faddr_ptr,faddr_elt,faddr_at,fld_val,fld_agg,load_ptr,loadBox_box,load_elt,loadRow_row,load_at,iaddr_lst,iaddr_own,iaddrRow_row,idx_val,ext_tup,lens_val,len_val,len_emp,len_own,lenRow_row,tostr_val,tostr_emp,tostr_own,tostrRow_row,ifc_val,mn_val,mx_val,mx4_val,lit_some,fn_fn,mks_val,isnil_nilif,isnil_ifc,isnil_emp,isnil_list,isnil_own,isnilRow_row,store_ptrK,storeBox_box,store_eltK,storeRow_row,add_some,app_own,app_emp,appRow_row,addOf_list,addOf_emp,addOf_own,rowOf_row,tx]) rfl h ?_
 simp
theorem i_channelOK (p:LPipe) (c:LChannel) (hb:bdChannel 1048576 c):CallOK Tryz.prog 82 [.val (rvPipe p),.val (rvChannel c)] (.ret (.val (.bool (lchannelOK p.next p.now c))) []) []:=by
 have hG:=i_GroupOK c.group hb.1
 have hpl:c.peers.length≤1048576:=hb.2.1.1
 have htl:c.group.targets.length≤1048576:=hb.1.2.1
 have hql:c.queue.items.length≤1048576:=hb.2.2.1.1
 have hP:=i_PeersOK c.peers (by omega) (fun x hx=>by have:=hb.2.1.2 x hx;unfold bdPeer bdTarget at this;omega)
 have hT:=i_targetsOf c.peers (by omega)
 have hE:=i_Equal_Target (tgs c.peers) c.group.targets (by simp [tgs];omega) (by omega)
 have hQ:=i_QueueOK c.queue hb.2.2
 have hC:=i_ContainsFunc_Report_8 c.queue.items 132 (.list 6 (p.channels.map rvChannel)) (tx p.policy.reportTo) (.list 1 (p.policy.uris.map tx)) (.list 2 (p.policy.rules.map rvRule)) (num p.now) (num p.next) (.list 3 (p.log.map rvEntry)) (.list 7 (p.wires.map rvWire)) (fun r=>!(decide (r.id < p.next) && decide (r.born≤p.now))) (by omega) (by kernel_rfl) (fun r _=>i_chanOK1 r p)
 have hch:lchannelOK p.next p.now c=(lgroupOK c.group && lpeersOK c.peers && decide (tgs c.peers=c.group.targets) && lqueueOK c.queue && !(c.queue.items.any fun r=>!(decide (r.id < p.next) && decide (r.born≤p.now)))):=by
  unfold lchannelOK tgs
  rw [List.not_any_eq_all_not]
  simp only [Bool.not_not]
 rw [hch]
 refine call_val mixed ok82 rfl (fun _=>rfl) ?_
 unfold ir82
 rw [evalC_intro]
 simp [initSt,avPVs,avPV,avBoxesL,avBoxes,rvPipe,rvChannel,tx,num]
 refine callX_val rfl rfl (.inl rfl) hG ?_
 cases lgroupOK c.group with
 | false=>simp
 | true=>
 simp [num]
 refine callX_val rfl rfl (.inl rfl) hP ?_
 cases lpeersOK c.peers with
 | false=>simp
 | true=>
 simp [num]
 refine callX_val rfl rfl (.inl rfl) hT ?_
 simp [num]
 refine callX_val rfl rfl (.inl rfl) hE ?_
 cases decide (tgs c.peers=c.group.targets) with
 | false=>simp
 | true=>
 simp [num]
 refine callX_val rfl rfl (.inl rfl) hQ ?_
 cases lqueueOK c.queue with
 | false=>simp
 | true=>
 simp [num]
 refine callS_valB (ids:=[2]) rfl rfl (by simp) (by decide) (by simp [SameB,evalC_skip,evalC_reg,evalC_draw,evalC_seq,evalC_cond,evalC_block,evalC_exit,evalC_ret,then_normal,then_exit,then_ret,then_pan,inBlock_normal,inBlock_ret,inBlock_pan,inBlock_exit,condS_bool,evalOps_nil,evalOps_cons,evalX_nil,evalX_cons,guardS_none,guardS_some,setD_some,setD_none,ev_t,ev_k,Option.getD_some,Option.getD_none,stepE_mov,stepE_pick,stepE_alloc,stepE_box,stepE_build,stepE_store,stepE_app,stepE_nilck,stepE_bin,stepE_eqb,stepE_eqs,stepE_un,stepE_conv,stepE_faddr,stepE_fld,stepE_load,stepE_iaddr,stepE_idx,stepE_slc,stepE_ext,stepE_lens,stepE_len,stepE_tostr,stepE_mkfn,stepE_ifc,stepE_mn,stepE_mx,stepE_mx4,stepE_mks,stepE_isnil,stepE_lit,stepE_call,stepE_callv,stepX_mov,stepX_nilck,stepX_bin,stepX_eqb,stepX_eqs,stepX_un,stepX_conv,stepX_faddr,stepX_fld,stepX_load,stepX_iaddr,stepX_idx,stepX_slc,stepX_ext,stepX_lens,stepX_len,stepX_tostr,stepX_mkfn,stepX_ifc,stepX_mn,stepX_mx,stepX_mx4,stepX_pick,stepX_build,stepX_lit,stepX_call,stepX_callv,binS_int,binS_str,binI_add,binI_sub,binI_mul,binI_quo,binI_rem,binI_eql,binI_neq,binI_lss,binI_leq,binI_gtr,binI_geq,binStr_add,binStr_eql,binStr_neq,unS_not,unS_neg,upd_app,envOf_nil,envOf_cons,memOf_nil,memOf_cons,RetP_ret,RetP_normal,resP_t,resP_tt,fin_env,frz_val,frz_emp,frz_own,pl_val,pl_emp,kill_val,kill_own,kill_ptr,kill_emp,kill_elt,kill_at,kill_undef,kill_fn,kill_skip,killM_row,killM_box,killM_dead,Kx_k,fillP_nil,fillP_cons,slc_lo,slc_hi,slc_lohi,slcl_lo,slcl_hi,Option.map_some,Option.map_none,iteP_true,iteP_false,onBool_val,onBool_skip,nilck_ptr,nilck_elt,nilck_at,nilck_fn,eqb_val,eqs_val,conv_val,faddr_ptr,faddr_elt,faddr_at,fld_val,fld_agg,load_ptr,loadBox_box,load_elt,loadRow_row,load_at,iaddr_lst,iaddr_own,iaddrRow_row,idx_val,ext_tup,lens_val,len_val,len_emp,len_own,lenRow_row,tostr_val,tostr_emp,tostr_own,tostrRow_row,ifc_val,mn_val,mx_val,mx4_val,lit_some,fn_fn,mks_val,isnil_nilif,isnil_ifc,isnil_emp,isnil_list,isnil_own,isnilRow_row,store_ptrK,storeBox_box,store_eltK,storeRow_row,add_some,app_own,app_emp,appRow_row,addOf_list,addOf_emp,addOf_own,rowOf_row,tx,num]) rfl hC ?_
 simp
theorem wireOK_core (p:LPipe) (w:LWire) (b1 b2 b3 b5:Bool) (hn:1≤p.next∧p.next≤1000000) (hil:w.ids.length≤1048576) (h1:CallOK Tryz.prog 60 [.val (num w.at_),.val (num 0),.val (num p.now)] (.ret (.val (.bool b1)) []) [])
 (h2:CallOK Tryz.prog 136 [.val (num w.status)] (.ret (.val (.bool b2)) []) []) (h3:CallOK Tryz.prog 137 [.val (tx w.group)] (.ret (.val (.bool b3)) []) [])
 (h5:CallOK Tryz.prog 60 [.val (num w.ids.length),.val (num 1),.val (num 3)] (.ret (.val (.bool b5)) []) []) :
 CallOK Tryz.prog 86 [.val (rvPipe p),.val (rvWire w)] (.ret (.val (.bool (b1 && b2 && b3 && decide (w.url.length≤100) && b5 && decide (w.body.length≤65536) && allN w.ids.length (idAt p.next w.ids)))) []) []:=by
 refine call_val mixed ok86 rfl (fun _=>rfl) ?_
 unfold ir86
 rw [evalC_intro]
 simp [initSt,avPVs,avPV,avBoxesL,avBoxes,rvPipe,rvWire,tx,num]
 refine callS_val rfl rfl (.inl rfl) h1 ?_
 cases b1 with
 | false=>simp
 | true=>
 simp [num]
 refine callS_val rfl rfl (.inl rfl) h2 ?_
 cases b2 with
 | false=>simp
 | true=>
 simp [num]
 refine callS_val rfl rfl (.inl rfl) h3 ?_
 cases b3 with
 | false=>simp
 | true=>
 by_cases hu:w.url.length≤100
 rotate_left
 · have hu':(100:Int) < w.url.length:=by omega
   simp [num,bs_size,hu',hu]
 have hu':¬ (100:Int) < w.url.length:=by omega
 simp [num,bs_size,hu',hu]
 refine callS_val rfl rfl (.inl rfl) h5 ?_
 cases b5 with
 | false=>simp
 | true=>
 by_cases hy:w.body.length≤65536
 rotate_left
 · have hy':(65536:Int) < w.body.length:=by omega
   simp [num,bs_size,hy',hy]
 have hy':¬ (65536:Int) < w.body.length:=by omega
 simp [num,bs_size,hy',hy]
 have wn:IntKind.i64.wrap (p.next - 1)=p.next - 1:=wrap_i64 (by omega) (by omega)
 refine loop_EC (X:=Nat) (fun i=>⟨envOf [(2,.ptr 2 0),(3,.ptr 3 0),(45,.val (.list 1 (w.ids.map num))),(46,.val (num w.ids.length)),(47,.val (num i))],memOf [(2,pBox p),(3,wBox w)]⟩) (fun i=>i≤w.ids.length∧allN i (idAt p.next w.ids)=true) (fun i=>w.ids.length - i) 0 (Le.mk _ _ ?_ ?_) ?_ ?_
 · simp [upd,num,PV.kill]
 · simp [pBox,wBox,tx,num,MObj.kill,PV.kill]
 · simp [allN_zero]
 · rintro i ⟨hi,hall⟩
   simp [num,wBox]
   refine iteP_intro (fun hlt=>?_) (fun hlt=>?_)
   · have hbad:idAt p.next w.ids i=false→allN w.ids.length (idAt p.next w.ids)=false:=allN_bad hlt
     have hsu:=allN_succ (idAt p.next w.ids) i
     rw [hall,Bool.true_and] at hsu
     obtain ⟨r,hr⟩:∃ r,w.ids[i]=r:=⟨_,rfl⟩
     have hR:=i_within r 1 (p.next - 1)
     have wi:IntKind.i64.wrap ((i:Int)+1)=((i+1:Nat):Int):=by rw [wrap_i64 (by omega) (by omega)];omega
     by_cases h0:i=0
     · subst h0
       rw [idAt_zero hlt,hr] at hbad hsu
       simp [num,hlt,hr,tx,pBox,wn]
       refine callS_val rfl rfl (.inl rfl) hR ?_
       cases hk:decide (1≤r∧r≤p.next - 1) with
       | false=>simp [hbad hk]
       | true=>
        simp [num]
        refine LoopNext.mk 1 ⟨by omega,by rw [hsu,hk]⟩ (by omega) (Le.mk _ _ ?_ ?_)
        · simp [num,upd];decide
        · simp [tx,pBox,wBox,num]
     · obtain ⟨j,hij⟩:∃ j,i=j+1:=⟨i - 1,by omega⟩
       have hj:j < w.ids.length:=by omega
       obtain ⟨s,hs⟩:∃ s,w.ids[j]=s:=⟨_,rfl⟩
       have hra:idAt p.next w.ids i=(decide (1≤r∧r≤p.next - 1) && decide (s < r)):=by
        subst hij;rw [idAt_succ hlt,hr,hs]
       rw [hra] at hbad hsu
       have wj:IntKind.i64.wrap ((i:Int) - 1)=(j:Int):=by rw [wrap_i64 (by omega) (by omega)];omega
       have hp:0 < i:=by omega
       simp [num,hlt,hr,tx,pBox,wn]
       refine callS_val rfl rfl (.inl rfl) hR ?_
       cases hk:decide (1≤r∧r≤p.next - 1) with
       | false=>simp [hbad (by rw [hk];rfl)]
       | true=>
        rw [hk,Bool.true_and] at hbad hsu
        by_cases hA:s < r
        · have hA':¬ r≤s:=by omega
          simp [num,hlt,hr,hs,hj,hp,wj,tx,hA']
          refine LoopNext.mk (i+1) ⟨by omega,by rw [hsu,decide_eq_true hA]⟩ (by omega) (Le.mk _ _ ?_ ?_)
          · simp [num,wi]
          · simp [tx,pBox,wBox,num]
        · have hA':r≤s:=by omega
          simp [num,hlt,hr,hs,hj,hp,wj,tx,hA',hbad (decide_eq_false hA)]
   · have e:i=w.ids.length:=by omega
     subst e
     simp [hall,hu,hy]
theorem i_wireOK (p:LPipe) (w:LWire) (hn:1≤p.next∧p.next≤1000000) (hb:bdWire 1048576 w):CallOK Tryz.prog 86 [.val (rvPipe p),.val (rvWire w)] (.ret (.val (.bool (lwireOK p.next p.now w))) []) []:=by
 have hgl:w.group.length≤1048576:=hb.1
 have hil:w.ids.length≤1048576:=hb.2.2.1
 have q:(1≤w.ids.length∧w.ids.length≤3)↔((1:Int)≤w.ids.length∧(w.ids.length:Int)≤3):=by omega
 unfold lwireOK
 rw [decide_eq_decide.2 q]
 exact wireOK_core p w _ _ _ _ hn hil (i_within w.at_ 0 p.now) (i_isStatus w.status) (i_NameOK w.group (by omega)) (i_within w.ids.length 1 3)
end Go.Proofs
end
section
namespace Go.Proofs
open Go.PW Go.KP
attribute [local simp] RV.cells RV.one PV.cells PV.solid PV.one vals? allVal mkAgg setAt RV.ofCells elems PV.killL
variable [GH]
theorem i_PipeOK1 (w:LWire) (p:LPipe) (hn:1≤p.next∧p.next≤1000000) (hb:bdWire 1048576 w):CallOK Tryz.prog 85 [.val (rvWire w),.box (pCells p)] (.ret (.val (.bool (!lwireOK p.next p.now w))) []) [pCells p]:=by
 have hW:=i_wireOK p w hn hb
 unfold pCells
 refine call_valB mixed ok85 rfl (fun _=>rfl) ?_
 unfold ir85
 rw [evalC_intro]
 simp [initSt,avPVs,avPV,avBoxesL,avBoxes,rvWire,tx,num]
 refine callS_val rfl rfl (.inl rfl) hW ?_
 simp [num,tx,RetB_ret,BoxesAt]
theorem i_PipeOK (p:LPipe) (hb:bdPipe 1048576 p):CallOK Tryz.prog 41 [.val (rvPipe p)] (.ret (.val (.bool (lpipeOK p))) []) []:=by
 have hcl:p.channels.length≤1048576:=hb.1.1
 have hP:=i_PolicyOK p.policy hb.2.1
 have hN:=i_isNow p.now
 have hX:=i_within p.next 1 1000000
 refine call_val mixed ok41 rfl (fun _=>rfl) ?_
 unfold ir41
 rw [evalC_intro]
 by_cases h5:p.channels.length≤5
 rotate_left
 · have h5':(5:Int) < p.channels.length:=by omega
   have hf:lpipeOK p=false:=by unfold lpipeOK;rw [decide_eq_false h5];rfl
   simp [initSt,avPVs,avPV,avBoxesL,avBoxes,rvPipe,tx,num,h5',hf]
 have h5':¬ (5:Int) < p.channels.length:=by omega
 simp [initSt,avPVs,avPV,avBoxesL,avBoxes,rvPipe,tx,num,h5']
 refine callS_val rfl rfl (.inl rfl) hP ?_
 cases hpol:lpolicyOK p.policy with
 | false=>
  have hf:lpipeOK p=false:=by unfold lpipeOK;rw [hpol];simp
  simp [hf]
 | true=>
 simp [num]
 refine callS_val rfl rfl (.inl rfl) hN ?_
 cases hnow:decide (0≤p.now∧p.now≤1000000) with
 | false=>
  have hf:lpipeOK p=false:=by unfold lpipeOK;rw [hnow];simp
  simp [hf]
 | true=>
 simp [num]
 refine callS_val rfl rfl (.inl rfl) hX ?_
 cases hnext:decide (1≤p.next∧p.next≤1000000) with
 | false=>
  have hf:lpipeOK p=false:=by unfold lpipeOK;rw [hnext];simp
  simp [hf]
 | true=>
 by_cases hll:p.log.length≤4096
 rotate_left
 · have hll':(4096:Int) < p.log.length:=by omega
   have hf:lpipeOK p=false:=by unfold lpipeOK;rw [decide_eq_false hll];simp
   simp [num,hll',hf]
 have hll':¬ (4096:Int) < p.log.length:=by omega
 by_cases hwl:p.wires.length≤4096
 rotate_left
 · have hwl':(4096:Int) < p.wires.length:=by omega
   have hf:lpipeOK p=false:=by unfold lpipeOK;rw [decide_eq_false hwl];simp
   simp [num,hll',hwl',hf]
 have hwl':¬ (4096:Int) < p.wires.length:=by omega
 have hpk:lpipeOK p=(allN p.channels.length (chanAt p) && allN p.log.length (entAt p.next p.now p.log) && p.wires.all (lwireOK p.next p.now)):=by
  unfold lpipeOK;rw [decide_eq_true h5,hpol,hnow,hnext,decide_eq_true hll,decide_eq_true hwl];simp
 have hn2:1≤p.next∧p.next≤1000000:=of_decide_eq_true hnext
 have wn:IntKind.i64.wrap (p.next - 1)=p.next - 1:=wrap_i64 (by omega) (by omega)
 have hpk2:lpipeOK p=(allN p.channels.length (chanAt p) && allN p.log.length (entAt p.next p.now p.log) && !(p.wires.any fun w=>!lwireOK p.next p.now w)):=by
  rw [hpk,List.not_any_eq_all_not]
  simp only [Bool.not_not]
 have hC:=i_ContainsFunc_Wire_8 p.wires 85 (.list 6 (p.channels.map rvChannel)) (tx p.policy.reportTo) (.list 1 (p.policy.uris.map tx)) (.list 2 (p.policy.rules.map rvRule)) (num p.now) (num p.next) (.list 3 (p.log.map rvEntry)) (.list 7 (p.wires.map rvWire)) (fun w=>!lwireOK p.next p.now w) (by omega) (by kernel_rfl) (fun w hw=>i_PipeOK1 w p hn2 (hb.2.2.2.2 w hw))
 rw [hpk2]
 simp [num,hll',hwl']
 refine loop_EC (X:=Nat) (fun i=>⟨envOf [(1,.ptr 1 0),(43,.val (.list 6 (p.channels.map rvChannel))),(44,.val (num p.channels.length)),(45,.val (num i))],memOf [(1,pBox p)]⟩) (fun i=>i≤p.channels.length∧allN i (chanAt p)=true) (fun i=>p.channels.length - i) 0 (Le.mk _ _ ?_ ?_) ?_ ?_
 · simp [upd,num,PV.kill]
 · simp [pBox,tx,num,MObj.kill,PV.kill]
 · simp [allN_zero]
 · rintro i ⟨hi,hall⟩
   simp [num,pBox]
   refine iteP_intro (fun hlt=>?_) (fun hlt=>?_)
   · have hbad:chanAt p i=false→(allN p.channels.length (chanAt p) && allN p.log.length (entAt p.next p.now p.log) && !(p.wires.any fun w=>!lwireOK p.next p.now w))=false:=fun h=>by rw [allN_bad hlt h];rfl
     have hsu:=allN_succ (chanAt p) i
     rw [hall,Bool.true_and] at hsu
     rw [chanAt_eq hlt] at hbad hsu
     have hnm:=chanName p i hlt
     obtain ⟨c,hc⟩:∃ c,p.channels[i]=c:=⟨_,rfl⟩
     have hbc:bdChannel 1048576 c:=by rw [← hc];exact hb.1.2 _ (List.getElem_mem hlt)
     rw [hc] at hbad hsu hnm
     have hA:=i_channel p c.group.name (by omega)
     have hCh:=i_channelOK p c hbc
     have wi:IntKind.i64.wrap ((i:Int)+1)=((i+1:Nat):Int):=by rw [wrap_i64 (by omega) (by omega)];omega
     simp [num,hlt,hc,rvChannel,tx,PV.kill,MObj.kill]
     refine callS_val rfl rfl (.inl rfl) hCh ?_
     cases hk:lchannelOK p.next p.now c with
     | false=>simp [hbad (by rw [hk,Bool.and_false])]
     | true=>
      rw [hk,Bool.and_true] at hbad hsu
      simp [num,tx,PV.kill,MObj.kill]
      refine callS_val rfl rfl (.inl rfl) hA ?_
      by_cases hu:c.group.name∈(p.channels.map fun c=>c.group.name).take i
      · have hne:¬ (lidx p.channels fun x=>decide (x.group.name=c.group.name))=(i:Int):=fun h=>hnm.1 h hu
        simp [num,hne,hbad (decide_eq_false (fun h=>h hu))]
      · have heq:=hnm.2 hu
        simp [num,heq]
        refine LoopNext.mk (i+1) ⟨by omega,by rw [hsu,decide_eq_true hu]⟩ (by omega) (Le.mk _ _ ?_ ?_)
        · simp [num,wi,PV.kill]
        · simp [tx,pBox,num,PV.kill,MObj.kill]
   · have e:i=p.channels.length:=by omega
     subst e
     rw [hall,Bool.true_and]
     simp [num]
     refine loop_EC (X:=Nat) (fun i=>⟨envOf [(1,.ptr 1 0),(5,.val (num (entLo p.log i))),(65,.val (.list 3 (p.log.map rvEntry))),(66,.val (num p.log.length)),(67,.val (num i))],memOf [(1,pBox p)]⟩) (fun i=>i≤p.log.length∧allN i (entAt p.next p.now p.log)=true) (fun i=>p.log.length - i) 0 (Le.mk _ _ ?_ ?_) ?_ ?_
     · simp [upd,num,PV.kill,entLo]
     · simp [pBox,tx,num,MObj.kill,PV.kill]
     · simp [allN_zero]
     · rintro i ⟨hi2,hall2⟩
       simp [num,pBox]
       refine iteP_intro (fun hlt=>?_) (fun hlt=>?_)
       · have hbad:entAt p.next p.now p.log i=false→(allN p.log.length (entAt p.next p.now p.log) && !(p.wires.any fun w=>!lwireOK p.next p.now w))=false:=fun h=>by rw [allN_bad hlt h];rfl
         have hsu:=allN_succ (entAt p.next p.now p.log) i
         rw [hall2,Bool.true_and] at hsu
         rw [entAt_eq hlt] at hbad hsu
         have hls:=entLo_succ hlt
         obtain ⟨x,hx⟩:∃ x,p.log[i]=x:=⟨_,rfl⟩
         rw [hx] at hbad hsu hls
         have hK:=i_within x.kind 1 7
         have hI:=i_within x.id 1 (p.next - 1)
         have hT:=i_within x.at_ (entLo p.log i) p.now
         have wi:IntKind.i64.wrap ((i:Int)+1)=((i+1:Nat):Int):=by rw [wrap_i64 (by omega) (by omega)];omega
         simp [num,hlt,hx,rvEntry,tx,PV.kill,MObj.kill]
         refine callS_val rfl rfl (.inl rfl) hK ?_
         cases hk:decide (1≤x.kind∧x.kind≤7) with
         | false=>simp [hbad (by rw [hk];rfl)]
         | true=>
         rw [hk,Bool.true_and] at hbad hsu
         simp [num,wn,PV.kill]
         refine callS_val rfl rfl (.inl rfl) hI ?_
         cases hid:decide (1≤x.id∧x.id≤p.next - 1) with
         | false=>simp [hbad (by rw [hid];rfl)]
         | true=>
         rw [hid,Bool.true_and] at hbad hsu
         simp [num,wn,PV.kill]
         refine callS_val rfl rfl (.inl rfl) hT ?_
         cases hat:decide (entLo p.log i≤x.at_∧x.at_≤p.now) with
         | false=>simp [hbad hat]
         | true=>
          simp [num,PV.kill]
          refine LoopNext.mk (i+1) ⟨by omega,by rw [hsu,hat]⟩ (by omega) (Le.mk _ _ ?_ ?_)
          · simp [num,wi,PV.kill,hls]
          · simp [tx,pBox,num,PV.kill,MObj.kill]
       · have e:i=p.log.length:=by omega
         subst e
         rw [hall2,Bool.true_and]
         simp [num]
         refine callS_valB (ids:=[1]) rfl rfl (by simp) (by decide) (by simp [SameB,evalC_skip,evalC_reg,evalC_draw,evalC_seq,evalC_cond,evalC_block,evalC_exit,evalC_ret,then_normal,then_exit,then_ret,then_pan,inBlock_normal,inBlock_ret,inBlock_pan,inBlock_exit,condS_bool,evalOps_nil,evalOps_cons,evalX_nil,evalX_cons,guardS_none,guardS_some,setD_some,setD_none,ev_t,ev_k,Option.getD_some,Option.getD_none,stepE_mov,stepE_pick,stepE_alloc,stepE_box,stepE_build,stepE_store,stepE_app,stepE_nilck,stepE_bin,stepE_eqb,stepE_eqs,stepE_un,stepE_conv,stepE_faddr,stepE_fld,stepE_load,stepE_iaddr,stepE_idx,stepE_slc,stepE_ext,stepE_lens,stepE_len,stepE_tostr,stepE_mkfn,stepE_ifc,stepE_mn,stepE_mx,stepE_mx4,stepE_mks,stepE_isnil,stepE_lit,stepE_call,stepE_callv,stepX_mov,stepX_nilck,stepX_bin,stepX_eqb,stepX_eqs,stepX_un,stepX_conv,stepX_faddr,stepX_fld,stepX_load,stepX_iaddr,stepX_idx,stepX_slc,stepX_ext,stepX_lens,stepX_len,stepX_tostr,stepX_mkfn,stepX_ifc,stepX_mn,stepX_mx,stepX_mx4,stepX_pick,stepX_build,stepX_lit,stepX_call,stepX_callv,binS_int,binS_str,binI_add,binI_sub,binI_mul,binI_quo,binI_rem,binI_eql,binI_neq,binI_lss,binI_leq,binI_gtr,binI_geq,binStr_add,binStr_eql,binStr_neq,unS_not,unS_neg,upd_app,envOf_nil,envOf_cons,memOf_nil,memOf_cons,RetP_ret,RetP_normal,resP_t,resP_tt,fin_env,frz_val,frz_emp,frz_own,pl_val,pl_emp,kill_val,kill_own,kill_ptr,kill_emp,kill_elt,kill_at,kill_undef,kill_fn,kill_skip,killM_row,killM_box,killM_dead,Kx_k,fillP_nil,fillP_cons,slc_lo,slc_hi,slc_lohi,slcl_lo,slcl_hi,Option.map_some,Option.map_none,iteP_true,iteP_false,onBool_val,onBool_skip,nilck_ptr,nilck_elt,nilck_at,nilck_fn,eqb_val,eqs_val,conv_val,faddr_ptr,faddr_elt,faddr_at,fld_val,fld_agg,load_ptr,loadBox_box,load_elt,loadRow_row,load_at,iaddr_lst,iaddr_own,iaddrRow_row,idx_val,ext_tup,lens_val,len_val,len_emp,len_own,lenRow_row,tostr_val,tostr_emp,tostr_own,tostrRow_row,ifc_val,mn_val,mx_val,mx4_val,lit_some,fn_fn,mks_val,isnil_nilif,isnil_ifc,isnil_emp,isnil_list,isnil_own,isnilRow_row,store_ptrK,storeBox_box,store_eltK,storeRow_row,add_some,app_own,app_emp,appRow_row,addOf_list,addOf_emp,addOf_own,rowOf_row,tx,num]) rfl hC ?_
         simp
end Go.Proofs
end
