/- Ca: merged out of KSa, KSb, KSc, KSd, KSe, KSr. -/
import Derived.Test.YtgdapgcjmfeocaaGreatDoorBa
import Derived.Test.YtgdapgcjmfeocaaGreatDoorAc
set_option linter.unusedSectionVars false
set_option linter.unusedSimpArgs false
set_option linter.unusedVariables false
set_option maxRecDepth 100000
section
namespace Go.Proofs
open Go.PW Go.KP
attribute [local simp] RV.cells RV.one PV.cells PV.solid PV.one vals? allVal mkAgg setAt RV.ofCells elems PV.killL
theorem mixed:Tryz.prog.follows .mixedOrders=true:=by kernel_rfl
variable [GF]
theorem c_l01In (k:IntKind) (a lo hi:Int):CallOK Tryz.prog 56 [.val (.int k a),.val (.int k lo),.val (.int k hi)] (.ret (.val (.bool (decide (lo≤a∧a≤hi)))) []) []:=by
 refine call_val mixed ok56 rfl (fun _=>rfl) ?_
 unfold ir56
 rw [evalC_intro]
 by_cases h:lo≤a
 · simp [initSt,avPVs,avPV,avBoxesL,avBoxes,h]
 · simp [initSt,avPVs,avPV,avBoxesL,avBoxes,h]
theorem c_l01Find (t:Tx) (c:UInt8) (ht:t.length < 1099511627776):CallOK Tryz.prog 215 [.val (tx t),.val (rvb c)] (.ret (.val (num (lfind t c))) []) []:=by
 refine call_val mixed ok215 rfl (fun _=>rfl) ?_
 unfold ir215
 rw [evalC_intro]
 simp only [evalC_skip,evalC_reg,evalC_draw,evalC_seq,evalC_cond,evalC_block,evalC_exit,evalC_ret,then_normal,then_exit,then_ret,then_pan,inBlock_normal,inBlock_ret,inBlock_pan,inBlock_exit,condS_bool,evalOps_nil,evalOps_cons,evalX_nil,evalX_cons,guardS_none,guardS_some,setD_some,setD_none,ev_t,ev_k,Option.getD_some,Option.getD_none,stepE_mov,stepE_pick,stepE_alloc,stepE_box,stepE_build,stepE_store,stepE_app,stepE_nilck,stepE_bin,stepE_eqb,stepE_eqs,stepE_un,stepE_conv,stepE_faddr,stepE_fld,stepE_load,stepE_iaddr,stepE_idx,stepE_slc,stepE_ext,stepE_lens,stepE_len,stepE_tostr,stepE_mkfn,stepE_ifc,stepE_mn,stepE_mx,stepE_mx4,stepE_mks,stepE_isnil,stepE_lit,stepE_call,stepE_callv,stepX_mov,stepX_nilck,stepX_bin,stepX_eqb,stepX_eqs,stepX_un,stepX_conv,stepX_faddr,stepX_fld,stepX_load,stepX_iaddr,stepX_idx,stepX_slc,stepX_ext,stepX_lens,stepX_len,stepX_tostr,stepX_mkfn,stepX_ifc,stepX_mn,stepX_mx,stepX_mx4,stepX_pick,stepX_build,stepX_lit,stepX_call,stepX_callv,binS_int,binS_str,binI_add,binI_sub,binI_mul,binI_quo,binI_rem,binI_eql,binI_neq,binI_lss,binI_leq,binI_gtr,binI_geq,binStr_add,binStr_eql,binStr_neq,unS_not,unS_neg,upd_app,envOf_nil,envOf_cons,memOf_nil,memOf_cons,RetP_ret,RetP_normal,resP_t,resP_tt,fin_env,frz_val,frz_emp,frz_own,pl_val,pl_emp,kill_val,kill_own,kill_ptr,kill_emp,kill_elt,kill_at,kill_undef,kill_fn,kill_skip,killM_row,killM_box,killM_dead,Kx_k,fillP_nil,fillP_cons,slc_lo,slc_hi,slc_lohi,slcl_lo,slcl_hi,Option.map_some,Option.map_none,iteP_true,iteP_false,onBool_val,onBool_skip,nilck_ptr,nilck_elt,nilck_at,nilck_fn,eqb_val,eqs_val,conv_val,faddr_ptr,faddr_elt,faddr_at,fld_val,fld_agg,load_ptr,loadBox_box,load_elt,loadRow_row,load_at,iaddr_lst,iaddr_own,iaddrRow_row,idx_val,ext_tup,lens_val,len_val,len_emp,len_own,lenRow_row,tostr_val,tostr_emp,tostr_own,tostrRow_row,ifc_val,mn_val,mx_val,mx4_val,lit_some,fn_fn,mks_val,isnil_nilif,isnil_ifc,isnil_emp,isnil_list,isnil_own,isnilRow_row,store_ptrK,storeBox_box,store_eltK,storeRow_row,add_some,app_own,app_emp,appRow_row,addOf_list,addOf_emp,addOf_own,rowOf_row,initSt,avPVs,avPV,avBoxesL,avBoxes,tx,rvb,num]
 refine loop_EC (X:=Nat) (fun i=>⟨envOf [(0,.val (.str (bs t))),(1,.val (.int .u8 c.toNat)),(5,.val (.int .i64 i))],memOf []⟩) (fun i=>i≤t.length∧∀ k,k < i→t.getD k 0≠c) (fun i=>t.length - i) 0 (Le.mk _ _ ?_ ?_) ?_ ?_
 · simp [upd]
 · simp
 · simp
 · rintro i ⟨hi,hne⟩
   simp [bs_size,byteAt_bs,u8_eq]
   refine iteP_intro (fun h1=>?_) (fun h1=>?_)
   · simp [bs_size,byteAt_bs,u8_eq,h1]
     refine iteP_intro (fun h2=>?_) (fun h2=>?_)
     · simp
       rw [lfind_eq t c i hi hne (.inr (by rw [getD_lt _ _ _ h1];exact h2))];rfl
     · simp
       refine LoopNext.mk (i+1) ⟨by omega,fun k hk=>?_⟩ (by omega) (Le.mk _ _ ?_ ?_)
       · by_cases e:k=i
         · subst e;simpa [List.getElem?_eq_getElem h1] using h2
         · simpa using hne k (by omega)
       · simp [upd_app,envOf_cons];rw [wrap_i64 (by omega) (by omega)]
       · simp
   · have e:i=t.length:=by omega
     simp [bs_size]
     rw [lfind_eq t c i hi hne (.inl e),e];rfl
theorem c_l01Web (t:Tx):CallOK Tryz.prog 192 [.val (tx t)] (.ret (.val (.bool (lweb t))) []) []:=by
 refine call_val mixed ok192 rfl (fun _=>rfl) ?_
 unfold ir192
 rw [evalC_intro]
 have e1:(⟨#[104,116,116,112]⟩:ByteArray)=bs sHttp:=rfl
 have e2:(⟨#[104,116,116,112,115]⟩:ByteArray)=bs sHttps:=rfl
 by_cases h:t=sHttp
 · simp [initSt,avPVs,avPV,avBoxesL,avBoxes,tx,e1,e2,bs_inj,lweb,h]
 · by_cases h':t=sHttps
   · subst h'
     simp [initSt,avPVs,avPV,avBoxesL,avBoxes,tx,e1,e2,bs_inj,lweb,show ¬ sHttps=sHttp by decide]
   · simp [initSt,avPVs,avPV,avBoxesL,avBoxes,tx,e1,e2,bs_inj,lweb,h,h']
theorem c_l01Usual (t:Tx):CallOK Tryz.prog 219 [.val (tx t)] (.ret (.val (num (lusual t))) []) []:=by
 refine call_val mixed ok219 rfl (fun _=>rfl) ?_
 unfold ir219
 rw [evalC_intro]
 have e1:(⟨#[104,116,116,112]⟩:ByteArray)=bs sHttp:=rfl
 by_cases h:t=sHttp
 · simp [initSt,avPVs,avPV,avBoxesL,avBoxes,tx,e1,bs_inj,lusual,h,num]
 · simp [initSt,avPVs,avPV,avBoxesL,avBoxes,tx,e1,bs_inj,lusual,h,num]
theorem c_l00Digit (c:UInt8):CallOK Tryz.prog 154 [.val (rvb c)] (.ret (.val (.bool (isDig c))) []) []:=by
 refine call_val mixed ok154 rfl (fun _=>rfl) ?_
 unfold ir154
 rw [evalC_intro]
 have e1:((48:Int)≤c.toNat)↔48≤c.toNat:=by omega
 have e2:((c.toNat:Int)≤57)↔c.toNat≤57:=by omega
 by_cases h:48≤c.toNat
 · simp [initSt,avPVs,avPV,avBoxesL,avBoxes,rvb,isDig,h,e1,e2]
 · simp [initSt,avPVs,avPV,avBoxesL,avBoxes,rvb,isDig,h,e1,e2]
theorem low1_toNat {c:UInt8} (h1:65≤c.toNat) (h2:c.toNat≤90):(c.toNat:Int)+32=((c+32).toNat:Int):=by
 rw [UInt8.toNat_add]
 simp
 omega
theorem c_l01Lower (t:Tx) (ht:t.length < 1099511627776):CallOK Tryz.prog 216 [.val (tx t)] (.ret (.val (tx (llow t))) []) []:=by
 refine call_val mixed ok216 rfl (fun _=>rfl) ?_
 unfold ir216
 rw [evalC_intro]
 simp only [evalC_skip,evalC_reg,evalC_draw,evalC_seq,evalC_cond,evalC_block,evalC_exit,evalC_ret,then_normal,then_exit,then_ret,then_pan,inBlock_normal,inBlock_ret,inBlock_pan,inBlock_exit,condS_bool,evalOps_nil,evalOps_cons,evalX_nil,evalX_cons,guardS_none,guardS_some,setD_some,setD_none,ev_t,ev_k,Option.getD_some,Option.getD_none,stepE_mov,stepE_pick,stepE_alloc,stepE_box,stepE_build,stepE_store,stepE_app,stepE_nilck,stepE_bin,stepE_eqb,stepE_eqs,stepE_un,stepE_conv,stepE_faddr,stepE_fld,stepE_load,stepE_iaddr,stepE_idx,stepE_slc,stepE_ext,stepE_lens,stepE_len,stepE_tostr,stepE_mkfn,stepE_ifc,stepE_mn,stepE_mx,stepE_mx4,stepE_mks,stepE_isnil,stepE_lit,stepE_call,stepE_callv,stepX_mov,stepX_nilck,stepX_bin,stepX_eqb,stepX_eqs,stepX_un,stepX_conv,stepX_faddr,stepX_fld,stepX_load,stepX_iaddr,stepX_idx,stepX_slc,stepX_ext,stepX_lens,stepX_len,stepX_tostr,stepX_mkfn,stepX_ifc,stepX_mn,stepX_mx,stepX_mx4,stepX_pick,stepX_build,stepX_lit,stepX_call,stepX_callv,binS_int,binS_str,binI_add,binI_sub,binI_mul,binI_quo,binI_rem,binI_eql,binI_neq,binI_lss,binI_leq,binI_gtr,binI_geq,binStr_add,binStr_eql,binStr_neq,unS_not,unS_neg,upd_app,envOf_nil,envOf_cons,memOf_nil,memOf_cons,RetP_ret,RetP_normal,resP_t,resP_tt,fin_env,frz_val,frz_emp,frz_own,pl_val,pl_emp,kill_val,kill_own,kill_ptr,kill_emp,kill_elt,kill_at,kill_undef,kill_fn,kill_skip,killM_row,killM_box,killM_dead,Kx_k,fillP_nil,fillP_cons,slc_lo,slc_hi,slc_lohi,slcl_lo,slcl_hi,Option.map_some,Option.map_none,iteP_true,iteP_false,onBool_val,onBool_skip,nilck_ptr,nilck_elt,nilck_at,nilck_fn,eqb_val,eqs_val,conv_val,faddr_ptr,faddr_elt,faddr_at,fld_val,fld_agg,load_ptr,loadBox_box,load_elt,loadRow_row,load_at,iaddr_lst,iaddr_own,iaddrRow_row,idx_val,ext_tup,lens_val,len_val,len_emp,len_own,lenRow_row,tostr_val,tostr_emp,tostr_own,tostrRow_row,ifc_val,mn_val,mx_val,mx4_val,lit_some,fn_fn,mks_val,isnil_nilif,isnil_ifc,isnil_emp,isnil_list,isnil_own,isnilRow_row,store_ptrK,storeBox_box,store_eltK,storeRow_row,add_some,app_own,app_emp,appRow_row,addOf_list,addOf_emp,addOf_own,rowOf_row,initSt,avPVs,avPV,avBoxesL,avBoxes,tx,elems]
 refine loop_EC (X:=Nat) (fun i=>⟨envOf [(0,.val (.str (bs t))),(3,.own 6),(4,.val (.int .i64 i))],memOf [(6,.row 5 1 ((llow (t.take i)).map rvb))]⟩) (fun i=>i≤t.length) (fun i=>t.length - i) 0 (Le.mk _ _ ?_ ?_) ?_ ?_
 · simp [upd,PV.kill]
 · simp [upd,llow]
 · simp
 · rintro i hi
   simp [bs_size,byteAt_bs,elems]
   refine iteP_intro (fun h1=>?_) (fun h1=>?_)
   · have hnext:∀ st':St,st'.env 0=.val (.str (bs t))→st'.env 3=.own 6→st'.env 4=.val (.int .i64 ((i:Int)+1))→st'.mem 6=.row 5 1 ((llow (t.take i)).map rvb++[rvb (low1 (t.getD i 0))]) →
      ∃ x',x'≤t.length∧t.length - x' < t.length - i∧Le st' ⟨envOf [(0,.val (.str (bs t))),(3,.own 6),(4,.val (.int .i64 (x':Int)))],memOf [(6,.row 5 1 ((llow (t.take x')).map rvb))]⟩:=fun st' q1 q2 q3 q4=>by
      refine ⟨i+1,by omega,by omega,Le.mk _ _ ?_ ?_⟩
      · simp [q1,q2,q3]
      · simp only [List.mem_singleton,forall_eq,q4]
        rw [take_succ t i 0 h1]
        simp [llow]
     have hlen:(llow (t.take i)).length=i:=by simp [llow];omega
     have e1:((65:Int)≤(t[i].toNat:Int))↔65≤t[i].toNat:=by omega
     have e2:((t[i].toNat:Int)≤90)↔t[i].toNat≤90:=by omega
     by_cases h2:65≤t[i].toNat
     · by_cases h3:t[i].toNat≤90
       · simp [bs_size,byteAt_bs,h1,e1,e2,h2,h3,hlen]
         refine ⟨by omega,by omega,hnext _ ?_ ?_ ?_ ?_⟩
         · simp [upd_app]
         · simp [upd_app]
         · simp [upd_app];exact wrap_i64 (by omega) (by omega)
         · rw [getD_lt _ _ _ h1]
           simp [upd_app,rvb,low1,h2,h3]
           rw [low1_toNat h2 h3]
           have:=(t[i]+32).toNat_lt
           rw [wrap_u8 (by omega) (by omega)]
           omega
       · simp [bs_size,byteAt_bs,h1,e1,e2,h2,h3,hlen]
         refine ⟨by omega,by omega,hnext _ ?_ ?_ ?_ ?_⟩
         · simp [upd_app]
         · simp [upd_app]
         · simp [upd_app];exact wrap_i64 (by omega) (by omega)
         · rw [getD_lt _ _ _ h1]
           simp [upd_app,rvb,low1,h2,h3]
     · simp [bs_size,byteAt_bs,h1,e1,e2,h2,hlen]
       refine ⟨by omega,by omega,hnext _ ?_ ?_ ?_ ?_⟩
       · simp [upd_app]
       · simp [upd_app]
       · simp [upd_app];exact wrap_i64 (by omega) (by omega)
       · rw [getD_lt _ _ _ h1]
         simp [upd_app,rvb,low1,h2]
   · have e:i=t.length:=by omega
     subst e
     have e1:(llow t).map rvb=(llow (t.take t.length)).map rvb:=by simp
     simp [bs_size]
     exact ⟨fun x _=>rfl,by rw [bytesOf_rvb];rfl⟩
theorem c_l01Only (t wo:Tx) (ht:t.length < 1099511627776) (hw:wo.length < 1099511627776):CallOK Tryz.prog 231 [.val (tx t),.val (tx wo)] (.ret (.val (.bool (lonly t wo))) []) []:=by
 refine call_val mixed ok231 rfl (fun _=>rfl) ?_
 unfold ir231
 rw [evalC_intro]
 simp only [evalC_skip,evalC_reg,evalC_draw,evalC_seq,evalC_cond,evalC_block,evalC_exit,evalC_ret,then_normal,then_exit,then_ret,then_pan,inBlock_normal,inBlock_ret,inBlock_pan,inBlock_exit,condS_bool,evalOps_nil,evalOps_cons,evalX_nil,evalX_cons,guardS_none,guardS_some,setD_some,setD_none,ev_t,ev_k,Option.getD_some,Option.getD_none,stepE_mov,stepE_pick,stepE_alloc,stepE_box,stepE_build,stepE_store,stepE_app,stepE_nilck,stepE_bin,stepE_eqb,stepE_eqs,stepE_un,stepE_conv,stepE_faddr,stepE_fld,stepE_load,stepE_iaddr,stepE_idx,stepE_slc,stepE_ext,stepE_lens,stepE_len,stepE_tostr,stepE_mkfn,stepE_ifc,stepE_mn,stepE_mx,stepE_mx4,stepE_mks,stepE_isnil,stepE_lit,stepE_call,stepE_callv,stepX_mov,stepX_nilck,stepX_bin,stepX_eqb,stepX_eqs,stepX_un,stepX_conv,stepX_faddr,stepX_fld,stepX_load,stepX_iaddr,stepX_idx,stepX_slc,stepX_ext,stepX_lens,stepX_len,stepX_tostr,stepX_mkfn,stepX_ifc,stepX_mn,stepX_mx,stepX_mx4,stepX_pick,stepX_build,stepX_lit,stepX_call,stepX_callv,binS_int,binS_str,binI_add,binI_sub,binI_mul,binI_quo,binI_rem,binI_eql,binI_neq,binI_lss,binI_leq,binI_gtr,binI_geq,binStr_add,binStr_eql,binStr_neq,unS_not,unS_neg,upd_app,envOf_nil,envOf_cons,memOf_nil,memOf_cons,RetP_ret,RetP_normal,resP_t,resP_tt,fin_env,frz_val,frz_emp,frz_own,pl_val,pl_emp,kill_val,kill_own,kill_ptr,kill_emp,kill_elt,kill_at,kill_undef,kill_fn,kill_skip,killM_row,killM_box,killM_dead,Kx_k,fillP_nil,fillP_cons,slc_lo,slc_hi,slc_lohi,slcl_lo,slcl_hi,Option.map_some,Option.map_none,iteP_true,iteP_false,onBool_val,onBool_skip,nilck_ptr,nilck_elt,nilck_at,nilck_fn,eqb_val,eqs_val,conv_val,faddr_ptr,faddr_elt,faddr_at,fld_val,fld_agg,load_ptr,loadBox_box,load_elt,loadRow_row,load_at,iaddr_lst,iaddr_own,iaddrRow_row,idx_val,ext_tup,lens_val,len_val,len_emp,len_own,lenRow_row,tostr_val,tostr_emp,tostr_own,tostrRow_row,ifc_val,mn_val,mx_val,mx4_val,lit_some,fn_fn,mks_val,isnil_nilif,isnil_ifc,isnil_emp,isnil_list,isnil_own,isnilRow_row,store_ptrK,storeBox_box,store_eltK,storeRow_row,add_some,app_own,app_emp,appRow_row,addOf_list,addOf_emp,addOf_own,rowOf_row,initSt,avPVs,avPV,avBoxesL,avBoxes,tx]
 refine loop_EC (X:=Nat) (fun i=>⟨envOf [(0,.val (.str (bs t))),(1,.val (.str (bs wo))),(5,.val (.int .i64 i))],memOf []⟩) (fun i=>i≤t.length∧lonly (t.take i) wo=true) (fun i=>t.length - i) 0 (Le.mk _ _ ?_ ?_) ?_ ?_
 · simp [upd]
 · simp
 · simp [lonly]
 · rintro i ⟨hi,hall⟩
   simp [bs_size,byteAt_bs]
   refine iteP_intro (fun h1=>?_) (fun h1=>?_)
   · have hstep:lonly (t.take (i+1)) wo=(decide (33≤t[i].toNat∧t[i].toNat≤126) && !decide (t[i]∈wo)):=by
      unfold lonly at hall ⊢
      rw [all_take_succ t _ i h1,hall,Bool.true_and]
     have hbad:(decide (33≤t[i].toNat∧t[i].toNat≤126) && !decide (t[i]∈wo))=false→lonly t wo=false:=fun hb=>by
      unfold lonly
      rw [List.all_eq_false]
      exact ⟨t[i],List.getElem_mem h1,by simpa using hb⟩
     have e1:((t[i].toNat:Int) < 33)↔t[i].toNat < 33:=by omega
     have e2:((126:Int) < (t[i].toNat:Int))↔126 < t[i].toNat:=by omega
     by_cases h2:33≤t[i].toNat
     · have h2':¬ t[i].toNat < 33:=by omega
       by_cases h3:126 < t[i].toNat
       · simp [bs_size,byteAt_bs,h1,e1,e2,h2,h2',h3]
         exact hbad (by simp;omega)
       · simp [bs_size,byteAt_bs,h1,e1,e2,h2,h2',h3]
         refine callS_val rfl rfl (.inl rfl) (c_l01Find wo t[i] hw) ?_
         by_cases h4:t[i]∈wo
         · simp [num,bs_size,lfind_lt,h4]
           exact hbad (by simp [h4])
         · simp [num,bs_size,lfind_lt,h4]
           refine LoopNext.mk (i+1) ⟨by omega,by rw [hstep];simp [h4];omega⟩ (by omega) (Le.mk _ _ ?_ ?_)
           · simp [upd_app];exact wrap_i64 (by omega) (by omega)
           · simp
     · have h2':t[i].toNat < 33:=by omega
       simp [bs_size,byteAt_bs,h1,e1,e2,h2,h2']
       exact hbad (by simp;omega)
   · have e:i=t.length:=by omega
     subst e
     simp [bs_size]
     simpa using hall.symm
theorem c_l01Scheme (t:Tx) (ht:t.length < 1099511627776):CallOK Tryz.prog 230 [.val (tx t)] (.ret (.val (.bool (lscheme t))) []) []:=by
 refine call_val mixed ok230 rfl (fun _=>rfl) ?_
 unfold ir230
 rw [evalC_intro]
 simp [initSt,avPVs,avPV,avBoxesL,avBoxes,tx,bs_size]
 refine callS_val rfl rfl (.inl rfl) (c_l01In .i64 t.length 1 12) ?_
 by_cases hlen:1≤t.length∧t.length≤12
 rotate_left
 · rw [show decide ((1:Int)≤t.length∧(t.length:Int)≤12)=false from decide_eq_false (by omega)]
   simp
   simp [lscheme,hlen]
 rw [show decide ((1:Int)≤t.length∧(t.length:Int)≤12)=true from decide_eq_true (by omega)]
 simp
 refine loop_EC (X:=Nat) (fun i=>⟨envOf [(0,.val (.str (bs t))),(3,.val (.int .i64 i))],memOf []⟩) (fun i=>i≤t.length∧schAll (t.take i)=true) (fun i=>t.length - i) 0 (Le.mk _ _ ?_ ?_) ?_ ?_
 · simp [upd]
 · simp
 · simp [schAll]
 · rintro i ⟨hi,hall⟩
   simp [bs_size,byteAt_bs]
   refine iteP_intro (fun h1=>?_) (fun h1=>?_)
   · have hstep:=schAll_succ t i h1
     rw [hall,Bool.true_and] at hstep
     have hbad:=schAll_false t i h1
     have hls:lscheme t=schAll t:=by simp [lscheme,hlen]
     have e1:((97:Int)≤(t[i].toNat:Int))↔97≤t[i].toNat:=by omega
     have e2:((t[i].toNat:Int)≤122)↔t[i].toNat≤122:=by omega
     have hgood:(if i=0 then isLow t[i] else schByte t[i])=true→∀ st':St,st'.env 0=.val (.str (bs t))→st'.env 3=.val (.int .i64 (IntKind.i64.wrap ((i:Int)+1))) →
      ∃ x',(x'≤t.length∧schAll (t.take x')=true)∧t.length - x' < t.length - i∧Le st' ⟨envOf [(0,.val (.str (bs t))),(3,.val (.int .i64 (x':Int)))],memOf []⟩:=fun hg st' q1 q2=>by
      refine ⟨i+1,⟨by omega,by rw [hstep,hg]⟩,by omega,Le.mk _ _ ?_ ?_⟩
      · simp [q1,q2];exact wrap_i64 (by omega) (by omega)
      · simp
     by_cases hs:97≤t[i].toNat∧t[i].toNat≤122
     · simp [bs_size,byteAt_bs,h1,e1,e2,hs.1,hs.2]
       refine hgood ?_ _ ?_ ?_
       · simp [isLow,schByte,hs]
       · simp
       · simp
     · by_cases h2:97≤t[i].toNat
       · have h3:¬ t[i].toNat≤122:=fun h=>hs ⟨h2,h⟩
         have hlow:isLow t[i]=false:=by simp [isLow];omega
         by_cases h0:i=0
         · simp [bs_size,byteAt_bs,h1,e1,e2,h2,h3,(eq_true h0:(i=0)=True)]
           exact hls.trans (hbad (by rw [if_pos h0];exact hlow))
         · simp [bs_size,byteAt_bs,h1,e1,e2,h2,h3,h0]
           refine callS_val rfl rfl (.inl rfl) (c_l00Digit t[i]) ?_
           cases hd:isDig t[i] with
           | true=>
            simp [h0]
            refine hgood ?_ _ ?_ ?_
            · simp [h0,schByte,hd]
            · simp
            · simp
           | false=>
            have e3:((t[i].toNat:Int)=45)↔t[i].toNat=45:=by omega
            have e4:((t[i].toNat:Int)=43)↔t[i].toNat=43:=by omega
            have e5:((t[i].toNat:Int)=46)↔t[i].toNat=46:=by omega
            by_cases h4:t[i].toNat=45
            · simp [bs_size,byteAt_bs,h1,h0,e3,e4,e5,h4]
              refine hgood ?_ _ ?_ ?_
              · simp [h0,schByte,h4]
              · simp
              · simp
            · by_cases h5:t[i].toNat=43
              · simp [bs_size,byteAt_bs,h1,h0,e3,e4,e5,h4,h5]
                refine hgood ?_ _ ?_ ?_
                · simp [h0,schByte,h5]
                · simp
                · simp
              · by_cases h6:t[i].toNat=46
                · simp [bs_size,byteAt_bs,h1,h0,e3,e4,e5,h4,h5,h6]
                  refine hgood ?_ _ ?_ ?_
                  · simp [h0,schByte,h6]
                  · simp
                  · simp
                · simp [bs_size,byteAt_bs,h1,h0,e3,e4,e5,h4,h5,h6]
                  exact hls.trans (hbad (by rw [if_neg h0];simp [schByte,hlow,hd,h4,h5,h6]))
       · skip
         have hlow:isLow t[i]=false:=by simp [isLow];omega
         by_cases h0:i=0
         · simp [bs_size,byteAt_bs,h1,e1,e2,h2,(eq_true h0:(i=0)=True)]
           exact hls.trans (hbad (by rw [if_pos h0];exact hlow))
         · simp [bs_size,byteAt_bs,h1,e1,e2,h2,h0]
           refine callS_val rfl rfl (.inl rfl) (c_l00Digit t[i]) ?_
           cases hd:isDig t[i] with
           | true=>
            simp [h0]
            refine hgood ?_ _ ?_ ?_
            · simp [h0,schByte,hd]
            · simp
            · simp
           | false=>
            have e3:((t[i].toNat:Int)=45)↔t[i].toNat=45:=by omega
            have e4:((t[i].toNat:Int)=43)↔t[i].toNat=43:=by omega
            have e5:((t[i].toNat:Int)=46)↔t[i].toNat=46:=by omega
            by_cases h4:t[i].toNat=45
            · simp [bs_size,byteAt_bs,h1,h0,e3,e4,e5,h4]
              refine hgood ?_ _ ?_ ?_
              · simp [h0,schByte,h4]
              · simp
              · simp
            · by_cases h5:t[i].toNat=43
              · simp [bs_size,byteAt_bs,h1,h0,e3,e4,e5,h4,h5]
                refine hgood ?_ _ ?_ ?_
                · simp [h0,schByte,h5]
                · simp
                · simp
              · by_cases h6:t[i].toNat=46
                · simp [bs_size,byteAt_bs,h1,h0,e3,e4,e5,h4,h5,h6]
                  refine hgood ?_ _ ?_ ?_
                  · simp [h0,schByte,h6]
                  · simp
                  · simp
                · simp [bs_size,byteAt_bs,h1,h0,e3,e4,e5,h4,h5,h6]
                  exact hls.trans (hbad (by rw [if_neg h0];simp [schByte,hlow,hd,h4,h5,h6]))
   · have e:i=t.length:=by omega
     subst e
     simp [bs_size]
     simp [lscheme,hlen]
     simpa using hall.symm
theorem lhost_step (last:Bool) (t:Tx) (i:Nat) (h:i < t.length):lhostFrom last (t.drop i)=if !(isLow t[i] || isDig t[i]) && (last || !decide (t[i].toNat=45∨t[i].toNat=46)) then false else lhostFrom (!(isLow t[i] || isDig t[i])) (t.drop (i+1)):=by
 rw [List.drop_eq_getElem_cons h];rfl
theorem c_l01Host (t:Tx) (ht:t.length < 1099511627776):CallOK Tryz.prog 232 [.val (tx t)] (.ret (.val (.bool (lhost t))) []) []:=by
 refine call_val mixed ok232 rfl (fun _=>rfl) ?_
 unfold ir232
 rw [evalC_intro]
 simp [initSt,avPVs,avPV,avBoxesL,avBoxes,tx]
 refine loop_EC (X:=Nat×Bool) (fun x=>⟨envOf [(0,.val (.str (bs t))),(3,.val (.bool x.2)),(4,.val (.int .i64 x.1))],memOf []⟩) (fun x=>x.1≤t.length∧lhost t=lhostFrom x.2 (t.drop x.1)) (fun x=>t.length - x.1) (0,true) (Le.mk _ _ ?_ ?_) ?_ ?_
 · simp [upd]
 · simp
 · simp [lhost]
 · rintro ⟨i,last⟩ ⟨hi,hinv⟩
   simp only at hi hinv
   simp [bs_size,byteAt_bs]
   refine iteP_intro (fun h1=>?_) (fun h1=>?_)
   · rw [lhost_step last t i h1] at hinv
     have e1:((97:Int)≤(t[i].toNat:Int))↔97≤t[i].toNat:=by omega
     have e2:((t[i].toNat:Int)≤122)↔t[i].toNat≤122:=by omega
     have e3:((t[i].toNat:Int)=45)↔t[i].toNat=45:=by omega
     have e5:((t[i].toNat:Int)=46)↔t[i].toNat=46:=by omega
     have hgood:∀ (l:Bool),lhost t=lhostFrom l (t.drop (i+1))→∀ st':St,st'.env 0=.val (.str (bs t))→st'.env 3=.val (.bool l)→st'.env 4=.val (.int .i64 (IntKind.i64.wrap ((i:Int)+1))) →
      ∃ x':Nat×Bool,(x'.1≤t.length∧lhost t=lhostFrom x'.2 (t.drop x'.1))∧t.length - x'.1 < t.length - i∧Le st' ⟨envOf [(0,.val (.str (bs t))),(3,.val (.bool x'.2)),(4,.val (.int .i64 (x'.1:Int)))],memOf []⟩:=fun l hl st' q1 q2 q3=>by
      refine ⟨(i+1,l),⟨by simp only;omega,hl⟩,by simp only;omega,Le.mk _ _ ?_ ?_⟩
      · simp [q1,q2,q3];exact wrap_i64 (by omega) (by omega)
      · simp
     by_cases hs:97≤t[i].toNat∧t[i].toNat≤122
     · have hlow:isLow t[i]=true:=by simp [isLow,hs]
       simp [bs_size,byteAt_bs,h1,e1,e2,hs.1,hs.2]
       refine hgood false (by rw [hinv];simp [hlow]) _ ?_ ?_ ?_<;>simp
     · have hlow:isLow t[i]=false:=by simp [isLow];omega
       by_cases h2:97≤t[i].toNat
       · have h3:¬ t[i].toNat≤122:=fun h=>hs ⟨h2,h⟩
         simp [bs_size,byteAt_bs,h1,e1,e2,h2,h3]
         refine callS_val rfl rfl (.inl rfl) (c_l00Digit t[i]) ?_
         cases hd:isDig t[i] with
         | true=>
          simp
          refine hgood false (by rw [hinv];simp [hlow,hd]) _ ?_ ?_ ?_<;>simp
         | false=>
          cases last with
          | true=>
           simp
           rw [hinv];simp [hlow,hd]
          | false=>
           by_cases h4:t[i].toNat=45
           · simp [bs_size,byteAt_bs,h1,e3,e5,h4]
             refine hgood true (by rw [hinv];simp [hlow,hd,h4]) _ ?_ ?_ ?_<;>simp
           · by_cases h6:t[i].toNat=46
             · simp [bs_size,byteAt_bs,h1,e3,e5,h4,h6]
               refine hgood true (by rw [hinv];simp [hlow,hd,h6]) _ ?_ ?_ ?_<;>simp
             · simp [bs_size,byteAt_bs,h1,e3,e5,h4,h6]
               rw [hinv];simp [hlow,hd,h4,h6]
       · skip
         simp [bs_size,byteAt_bs,h1,e1,e2,h2]
         refine callS_val rfl rfl (.inl rfl) (c_l00Digit t[i]) ?_
         cases hd:isDig t[i] with
         | true=>
          simp
          refine hgood false (by rw [hinv];simp [hlow,hd]) _ ?_ ?_ ?_<;>simp
         | false=>
          cases last with
          | true=>
           simp
           rw [hinv];simp [hlow,hd]
          | false=>
           by_cases h4:t[i].toNat=45
           · simp [bs_size,byteAt_bs,h1,e3,e5,h4]
             refine hgood true (by rw [hinv];simp [hlow,hd,h4]) _ ?_ ?_ ?_<;>simp
           · by_cases h6:t[i].toNat=46
             · simp [bs_size,byteAt_bs,h1,e3,e5,h4,h6]
               refine hgood true (by rw [hinv];simp [hlow,hd,h6]) _ ?_ ?_ ?_<;>simp
             · simp [bs_size,byteAt_bs,h1,e3,e5,h4,h6]
               rw [hinv];simp [hlow,hd,h4,h6]
   · have e:i=t.length:=by omega
     subst e
     simp [bs_size]
     rw [hinv];simp [lhostFrom]
end Go.Proofs
end
section
namespace Go.Proofs
open Go.PW Go.KP
attribute [local simp] RV.cells RV.one PV.cells PV.solid PV.one vals? allVal mkAgg setAt RV.ofCells elems PV.killL
variable [GF]
theorem byte1 (m:Nat):bytesOf [RV.int .u8 (48+(m:Int))]=bs [UInt8.ofNat (48+m)]:=by
 have:(48+(m:Int)).toNat=48+m:=by omega
 simp only [bytesOf,bs,List.map,RV.byte,this]
theorem c_l00Digits_nat (n:Nat):n≤9223372036854775807→CallOK Tryz.prog 233 [.val (num n)] (.ret (.val (tx (ldig n))) []) []:=by
 induction n using Nat.strongRecOn with
 | ind n ih=>
  intro hn
  refine call_val mixed ok233 rfl (fun _=>rfl) ?_
  unfold ir233
  rw [evalC_intro]
  have g1:¬ ((n:Int)=-9223372036854775808):=by omega
  have g2:¬ ((n:Int) < 0):=by omega
  by_cases h:n < 10
  · have g3:(n:Int) < 10:=by omega
    have g4:IntKind.i64.wrap (48+(n:Int))=48+(n:Int):=wrap_i64 (by omega) (by omega)
    have g5:IntKind.u8.wrap (48+(n:Int))=48+(n:Int):=wrap_u8 (by omega) (by omega)
    simp [initSt,avPVs,avPV,avBoxesL,avBoxes,num,g1,g2,g3,g4,g5,RV.isU8]
    rw [ldig_lt h]
    rw [byte1];rfl
  · have g3:¬ ((n:Int) < 10):=by omega
    have g6:(n:Int).tdiv 10=((n / 10:Nat):Int):=by rw [Int.tdiv_eq_ediv_of_nonneg (by omega)];omega
    have g7:(n:Int).tmod 10=((n % 10:Nat):Int):=by rw [Int.tmod_eq_emod_of_nonneg (by omega)];omega
    have hih:=ih (n / 10) (by omega) (by omega)
    rw [ldig_ge h]
    have hl:=ldig_len (n / 10)
    have ha:n / 10≤922337203685477580:=by omega
    generalize n / 10=a at *
    have hb:n % 10 < 10:=Nat.mod_lt _ (by omega)
    generalize n % 10=b at *
    have g8:IntKind.i64.wrap (a:Int)=(a:Int):=wrap_i64 (by omega) (by omega)
    have g4:IntKind.i64.wrap (48+(b:Int))=48+(b:Int):=wrap_i64 (by omega) (by omega)
    have g5:IntKind.u8.wrap (48+(b:Int))=48+(b:Int):=wrap_u8 (by omega) (by omega)
    simp [initSt,avPVs,avPV,avBoxesL,avBoxes,num,g1,g2,g3,g6,g7,g8,g4,g5,RV.isU8]
    refine callX_val rfl rfl (.inl rfl) hih ?_
    simp [initSt,avPVs,avPV,avBoxesL,avBoxes,num,g1,g2,g3,g6,g7,g8,g4,g5,RV.isU8,tx]
    rw [byte1]
    simp [bs_size,bs_append]
    omega
def numRes:Option Int→PV
 | some n=>.tup [.val (num n),.val (.bool true)]
 | none=>.tup [.val (num 0),.val (.bool false)]
theorem number_from5 (u:Tx) (neg:Bool) (st:St) (h0:st.env 0=.val (tx u)) (h4:st.env 4=.val (num (if neg then -1 else 1))) (h5:st.env 5=.val (num 0)) (hu:u.length≤18) :
 EC Tryz.prog ir218_from5 st (K:=⟨RetP [.t 2,.t 3] (numRes (if u.all isDig then some (if neg then - (lval u:Int) else (lval u:Int)) else none))⟩):=by
 unfold ir218_from5
 simp only [evalC_skip,evalC_reg,evalC_draw,evalC_seq,evalC_cond,evalC_block,evalC_exit,evalC_ret,then_normal,then_exit,then_ret,then_pan,inBlock_normal,inBlock_ret,inBlock_pan,inBlock_exit,condS_bool,evalOps_nil,evalOps_cons,evalX_nil,evalX_cons,guardS_none,guardS_some,setD_some,setD_none,ev_t,ev_k,Option.getD_some,Option.getD_none,stepE_mov,stepE_pick,stepE_alloc,stepE_box,stepE_build,stepE_store,stepE_app,stepE_nilck,stepE_bin,stepE_eqb,stepE_eqs,stepE_un,stepE_conv,stepE_faddr,stepE_fld,stepE_load,stepE_iaddr,stepE_idx,stepE_slc,stepE_ext,stepE_lens,stepE_len,stepE_tostr,stepE_mkfn,stepE_ifc,stepE_mn,stepE_mx,stepE_mx4,stepE_mks,stepE_isnil,stepE_lit,stepE_call,stepE_callv,stepX_mov,stepX_nilck,stepX_bin,stepX_eqb,stepX_eqs,stepX_un,stepX_conv,stepX_faddr,stepX_fld,stepX_load,stepX_iaddr,stepX_idx,stepX_slc,stepX_ext,stepX_lens,stepX_len,stepX_tostr,stepX_mkfn,stepX_ifc,stepX_mn,stepX_mx,stepX_mx4,stepX_pick,stepX_build,stepX_lit,stepX_call,stepX_callv,binS_int,binS_str,binI_add,binI_sub,binI_mul,binI_quo,binI_rem,binI_eql,binI_neq,binI_lss,binI_leq,binI_gtr,binI_geq,binStr_add,binStr_eql,binStr_neq,unS_not,unS_neg,upd_app,envOf_nil,envOf_cons,memOf_nil,memOf_cons,RetP_ret,RetP_normal,resP_t,resP_tt,fin_env,frz_val,frz_emp,frz_own,pl_val,pl_emp,kill_val,kill_own,kill_ptr,kill_emp,kill_elt,kill_at,kill_undef,kill_fn,kill_skip,killM_row,killM_box,killM_dead,Kx_k,fillP_nil,fillP_cons,slc_lo,slc_hi,slc_lohi,slcl_lo,slcl_hi,Option.map_some,Option.map_none,iteP_true,iteP_false,onBool_val,onBool_skip,nilck_ptr,nilck_elt,nilck_at,nilck_fn,eqb_val,eqs_val,conv_val,faddr_ptr,faddr_elt,faddr_at,fld_val,fld_agg,load_ptr,loadBox_box,load_elt,loadRow_row,load_at,iaddr_lst,iaddr_own,iaddrRow_row,idx_val,ext_tup,lens_val,len_val,len_emp,len_own,lenRow_row,tostr_val,tostr_emp,tostr_own,tostrRow_row,ifc_val,mn_val,mx_val,mx4_val,lit_some,fn_fn,mks_val,isnil_nilif,isnil_ifc,isnil_emp,isnil_list,isnil_own,isnilRow_row,store_ptrK,storeBox_box,store_eltK,storeRow_row,add_some,app_own,app_emp,appRow_row,addOf_list,addOf_emp,addOf_own,rowOf_row]
 refine loop_EC (X:=Nat) (fun i=>⟨envOf [(0,.val (tx u)),(4,.val (num (if neg then -1 else 1))),(5,.val (num (lval (u.take i)))),(6,.val (num i))],memOf []⟩) (fun i=>i≤u.length∧(u.take i).all isDig=true) (fun i=>u.length - i) 0 (Le.mk _ _ ?_ ?_) ?_ ?_
 · simp [upd,h0,h4,h5,num,lval]
 · simp
 · simp
 · rintro i ⟨hi,hall⟩
   have hlv:lval (u.take i) < 1000000000000000000:=by
    have h1:=lval_lt _ hall
    have h2:(u.take i).length≤18:=by simp;omega
    exact Nat.lt_of_lt_of_le h1 (Nat.le_trans (Nat.pow_le_pow_right (by omega) h2) (by decide))
   simp [tx,num,bs_size,byteAt_bs]
   refine iteP_intro (fun h1=>?_) (fun h1=>?_)
   · have e1:((u[i].toNat:Int) < 48)↔u[i].toNat < 48:=by omega
     have e1':((48:Int)≤(u[i].toNat:Int))↔48≤u[i].toNat:=by omega
     have e2:((57:Int) < (u[i].toNat:Int))↔57 < u[i].toNat:=by omega
     by_cases h2:u[i].toNat < 48
     · have h2':¬ 48≤u[i].toNat:=by omega
       simp [tx,num,bs_size,byteAt_bs,h1,e1,e1',e2,h2,h2']
       rw [if_neg (fun hA=>by have:=hA u[i] (List.getElem_mem h1);simp [isDig] at this;omega)];rfl
     · have h2':48≤u[i].toNat:=by omega
       by_cases h3:57 < u[i].toNat
       · simp [tx,num,bs_size,byteAt_bs,h1,e1,e1',e2,h2,h2',h3]
         rw [if_neg (fun hA=>by have:=hA u[i] (List.getElem_mem h1);simp [isDig] at this;omega)];rfl
       · simp [tx,num,bs_size,byteAt_bs,h1,e1,e1',e2,h2,h2',h3]
         have hlv2:lval (u.take i) < 100000000000000000:=by
          have h1':=lval_lt _ hall
          have h2':(u.take i).length≤17:=by simp;omega
          exact Nat.lt_of_lt_of_le h1' (Nat.le_trans (Nat.pow_le_pow_right (by omega) h2') (by decide))
         have hw:IntKind.i64.wrap (IntKind.i64.wrap (IntKind.i64.wrap ((lval (u.take i):Int)*10)+IntKind.i64.wrap (u[i].toNat:Int)) - 48)=((lval (u.take (i+1)):Nat):Int):=by
          rw [take_succ u i 0 h1,lval_snoc,getD_lt _ _ _ h1]
          rw [wrap_i64 (x:=(lval (u.take i):Int)*10) (by omega) (by omega),wrap_i64 (x:=(u[i].toNat:Int)) (by omega) (by omega),wrap_i64 (x:=(lval (u.take i):Int)*10+(u[i].toNat:Int)) (by omega) (by omega),wrap_i64 (by omega) (by omega)]
          omega
         refine LoopNext.mk (i+1) ⟨by omega,?_⟩ (by omega) (Le.mk _ _ ?_ ?_)
         · rw [all_take_succ _ _ _ h1,hall];simp [isDig];omega
         · simp [hw,tx,num];exact wrap_i64 (by omega) (by omega)
         · simp
   · have e:i=u.length:=by omega
     subst e
     rw [List.take_length] at hall hlv
     simp [tx,num,bs_size]
     have hA:∀ x,x∈u→isDig x=true:=by simpa using hall
     have w1:IntKind.i64.wrap (-(lval u:Int))=-(lval u:Int):=wrap_i64 (by omega) (by omega)
     have w2:IntKind.i64.wrap (lval u:Int)=(lval u:Int):=wrap_i64 (by omega) (by omega)
     cases neg with
     | true=>simp [numRes,num,eq_true hA,w1]
     | false=>simp [numRes,num,eq_true hA,w2]
theorem number_from3 (u:Tx) (neg:Bool) (st:St) (h0:st.env 0=.val (tx u)) (h4:st.env 4=.val (num (if neg then -1 else 1))) (hu:u.length < 1099511627776) :
 EC Tryz.prog ir218_from3 st (K:=⟨RetP [.t 2,.t 3] (numRes (lnumU neg u))⟩):=by
 unfold ir218_from3
 by_cases a1:u.length=0
 · have:u=[]:=List.eq_nil_of_length_eq_zero a1
   subst this
   simp [h0,tx,bs_size]
   rw [show lnumU neg []=none by simp [lnumU,numBad]];rfl
 · have a1':¬ ((u.length:Int)=0):=by omega
   by_cases a2:18 < u.length
   · have a2':(18:Int) < u.length:=by omega
     have a2'':¬ (u.length:Int)≤18:=by omega
     simp [h0,tx,bs_size,a1,a1',a2',a2'']
     rw [show lnumU neg u=none by simp [lnumU,numBad,a2]];rfl
   · have hpos:0 < u.length:=by omega
     have a2':¬ (18:Int) < u.length:=by omega
     have a2'':(u.length:Int)≤18:=by omega
     have e0:u[0]?.getD 0=u.getD 0 0:=by simp
     have e1:((u[0].toNat:Int)=48)↔u[0].toNat=48:=by omega
     have e2:((1:Int) < (u.length:Int))↔1 < u.length:=by omega
     have hg:u[0]?.getD 0=u[0]:=by simp [List.getElem?_eq_getElem hpos]
     have hgo:numBad neg u=false→∀ st':St,st'.env 0=.val (tx u)→st'.env 4=.val (num (if neg then -1 else 1))→st'.env 5=.val (num 0)→EC Tryz.prog ir218_from5 st' (K:=⟨RetP [.t 2,.t 3] (numRes (lnumU neg u))⟩):=fun hb st' q1 q2 q3=>by
      rw [show lnumU neg u=(if u.all isDig then some (if neg then - (lval u:Int) else (lval u:Int)) else none) by unfold lnumU;rw [hb];rfl]
      exact number_from5 u neg st' q1 q2 q3 (by omega)
     by_cases a3:u[0].toNat=48
     · by_cases a4:1 < u.length
       · simp [h0,tx,bs_size,a1,a1',a2',a2'',byteAt_bs,hpos,e1,e2,a3,a4]
         rw [show lnumU neg u=none by simp [lnumU,numBad,hg,a3,a4]];rfl
       · cases neg with
         | true=>
          simp [h0,h4,num,tx,bs_size,a1,a1',a2',a2'',byteAt_bs,hpos,e1,e2,a3,a4]
          rw [show lnumU true u=none by simp [lnumU,numBad,hg,a3]];rfl
         | false=>
          simp [h0,h4,num,tx,bs_size,a1,a1',a2',a2'',byteAt_bs,hpos,e1,e2,a3,a4]
          refine hgo ?_ _ ?_ ?_ ?_
          · simp [numBad,hg,a3,a4,a1,a2]
          · simp [h0,tx]
          · simp [h4,num]
          · simp [num]
     · simp [h0,tx,bs_size,a1,a1',a2',a2'',byteAt_bs,hpos,e1,e2,a3]
       refine hgo ?_ _ ?_ ?_ ?_
       · simp [numBad,hg,a3,a1,a2]
       · simp [h0,tx]
       · simp [h4,num]
       · simp [num]
theorem c_l00Number (t:Tx) (ht:t.length < 1099511627776):CallOK Tryz.prog 218 [.val (tx t)] (.ret (numRes (lnumber t)) []) []:=by
 refine call_val mixed ok218 rfl (fun ι=>by cases lnumber t<;>rfl) ?_
 unfold ir218
 rw [evalC_intro]
 cases t with
 | nil=>
  simp [initSt,avPVs,avPV,avBoxesL,avBoxes,tx,bs_size]
  rw [show lnumber []=lnumU false [] by simp [lnumber,lnumU,numBad]]
  refine number_from3 [] false _ ?_ ?_ (by simp)<;>simp [tx,num]
 | cons c r=>
  have hr:r.length < 1099511627776:=by simp at ht;omega
  have e0:(0:Int) < ((r.length:Int)+1):=by omega
  by_cases hc:c=45
  · have e1:((c.toNat:Int)=45):=by rw [hc];rfl
    simp [initSt,avPVs,avPV,avBoxesL,avBoxes,tx,bs_size,byteAt_bs,e0,e1,bs_extract]
    rw [show lnumber (c :: r)=lnumU true r by simp [lnumber,hc]]
    refine number_from3 r true _ ?_ ?_ hr<;>simp [tx,num]
  · have e1:¬ ((c.toNat:Int)=45):=fun h=>hc (UInt8.toNat_inj.1 (by simp;omega))
    simp [initSt,avPVs,avPV,avBoxesL,avBoxes,tx,bs_size,byteAt_bs,e0,e1]
    rw [show lnumber (c :: r)=lnumU false (c :: r) by simp [lnumber,hc]]
    refine number_from3 (c :: r) false _ ?_ ?_ ht<;>simp [tx,num]
theorem c_l01Site (u:LUrl) (hs:u.Small):CallOK Tryz.prog 220 [.val (rvUrl u)] (.ret (.val (tx (lsite u))) []) []:=by
 refine call_val mixed ok220 rfl (fun _=>rfl) ?_
 unfold ir220
 rw [evalC_intro]
 obtain ⟨s1,s2,s3,s4,s5,s6,s7⟩:=hs
 have e1:(⟨#[58,47,47]⟩:ByteArray)=bs [58,47,47]:=rfl
 have e2:(⟨#[58]⟩:ByteArray)=bs [58]:=rfl
 simp [initSt,avPVs,avPV,avBoxesL,avBoxes,rvUrl,tx,num,bs_size,e1,e2,bs_append]
 refine ⟨by omega,by omega,iteP_intro (fun h=>?_) (fun h=>?_)⟩
 · obtain ⟨p,hp⟩:=Int.eq_ofNat_of_zero_le (show 0≤u.port by omega)
   simp [rvUrl,tx,num,bs_size,e1,e2,bs_append]
   refine callS_val rfl rfl (.inl rfl) (by rw [hp];exact c_l00Digits_nat p (by omega)) ?_
   have hl:=ldig_len10 18 p (by omega)
   simp [rvUrl,tx,num,bs_size,e1,e2,bs_append]
   refine ⟨by omega,by omega,?_⟩
   simp [lsite,portTx,hp,show 0 < p by omega]
 · simp [rvUrl,tx,num,bs_size,e1,e2,bs_append]
   simp [lsite,portTx,h]
theorem text_from4 (u:LUrl) (hs:u.Small) (pre:Tx) (hp:pre.length < 4398046511104) (st:St) (h1:st.env 1=.ptr 1 0) (h3:st.env 3=.val (tx pre)) (hm:st.mem 1=.box [.val (tx u.scheme),.val (tx u.user),.val (tx u.host),.val (num u.port),.val (tx u.path),.val (tx u.query),.val (tx u.frag),.val (.bool u.hasQ),.val (.bool u.hasF)]) :
 EC Tryz.prog ir193_from4 st (K:=⟨RetP [.t 2] (.val (tx (pre++(u.host++portTx u.port++u.path)++(if u.hasQ then 63 :: u.query else [])++(if u.hasF then 35 :: u.frag else []))))⟩):=by
 unfold ir193_from4
 obtain ⟨s1,s2,s3,s4,s5,s6,s7⟩:=hs
 have e3:(⟨#[]⟩:ByteArray)=bs []:=rfl
 have e5:(⟨#[63]⟩:ByteArray)=bs [63]:=rfl
 have e6:(⟨#[35]⟩:ByteArray)=bs [35]:=rfl
 simp [h1,h3,hm,tx,num,bs_size,e3,e5,e6,bs_append]
 refine callX_val rfl rfl (.inl rfl) (c_l01Site ⟨[],[],u.host,u.port,[],[],[],false,false⟩ ⟨by simp,by simp,s3,by simp,by simp,by simp,s7⟩) ?_
 simp [h1,h3,hm,tx,num,bs_size,e3,e5,e6,bs_append,bs_extract,lsite]
 have hpl:=portTx_len u.port s7
 have htk:List.take (u.host.length+(portTx u.port).length) (u.host++portTx u.port)=u.host++portTx u.port:=List.take_of_length_le (by simp)
 refine ⟨by omega,by omega,?_⟩
 cases hq:u.hasQ with
 | true=>
  refine iteP_intro (fun _=>?_) (fun h=>(h (by simp)).elim)
  simp [h1,h3,hm,tx,num,bs_size,e3,e5,e6,bs_append,htk]
  refine ⟨by omega,by omega,?_⟩
  cases hf:u.hasF with
  | true=>
   refine iteP_intro (fun _=>?_) (fun h=>(h (by simp)).elim)
   simp [h1,h3,hm,tx,num,bs_size,e3,e5,e6,bs_append,htk]
   omega
  | false=>
   refine iteP_intro (fun h=>by simp at h) (fun _=>?_)
   simp [h1,h3,hm,tx,num,bs_size,e3,e5,e6,bs_append,htk]
 | false=>
  refine iteP_intro (fun h=>by simp at h) (fun _=>?_)
  simp [h1,h3,hm,tx,num,bs_size,e3,e5,e6,bs_append,htk]
  cases hf:u.hasF with
  | true=>
   refine iteP_intro (fun _=>?_) (fun h=>(h (by simp)).elim)
   simp [h1,h3,hm,tx,num,bs_size,e3,e5,e6,bs_append,htk]
   omega
  | false=>
   refine iteP_intro (fun h=>by simp at h) (fun _=>?_)
   simp [h1,h3,hm,tx,num,bs_size,e3,e5,e6,bs_append,htk]
theorem c_l01Text (u:LUrl) (hs:u.Small):CallOK Tryz.prog 193 [.val (rvUrl u)] (.ret (.val (tx (ltext u))) []) []:=by
 refine call_val mixed ok193 rfl (fun _=>rfl) ?_
 unfold ir193
 rw [evalC_intro]
 have hs':=hs
 obtain ⟨s1,s2,s3,s4,s5,s6,s7⟩:=hs
 have e1:(⟨#[58,47,47]⟩:ByteArray)=bs [58,47,47]:=rfl
 have e2:(⟨#[58]⟩:ByteArray)=bs [58]:=rfl
 have e3:(⟨#[]⟩:ByteArray)=bs []:=rfl
 have e4:(⟨#[64]⟩:ByteArray)=bs [64]:=rfl
 have e5:(⟨#[63]⟩:ByteArray)=bs [63]:=rfl
 have e6:(⟨#[35]⟩:ByteArray)=bs [35]:=rfl
 simp [initSt,avPVs,avPV,avBoxesL,avBoxes,rvUrl,tx,num,bs_size,e1,e2,bs_append]
 refine callS_val rfl rfl (.inl rfl) (c_l01Web u.scheme) ?_
 by_cases hw:lweb u.scheme=true
 · simp [rvUrl,tx,num,bs_size,e1,e2,e3,e4,bs_append,bs_inj,hw]
   refine ⟨by omega,iteP_intro (fun hu=>?_) (fun hu=>?_)⟩
   · simp [rvUrl,tx,num,bs_size,e1,e2,e3,e4,bs_append,bs_inj]
     refine ⟨by omega,by omega,?_⟩
     have e:ltext u=(u.scheme++[58,47,47]++(u.user++[64]))++(u.host++portTx u.port++u.path)++(if u.hasQ then 63 :: u.query else [])++(if u.hasF then 35 :: u.frag else []):=by simp [ltext,hw,hu]
     have:=text_from4 u hs' (u.scheme++[58,47,47]++(u.user++[64])) (by simp;omega)
     rw [← e] at this
     refine this _ ?_ ?_ ?_<;>simp [tx,num]
   · have hu:u.user=[]:=Classical.byContradiction hu
     have e:ltext u=(u.scheme++[58,47,47])++(u.host++portTx u.port++u.path)++(if u.hasQ then 63 :: u.query else [])++(if u.hasF then 35 :: u.frag else []):=by simp [ltext,hw,hu]
     have:=text_from4 u hs' (u.scheme++[58,47,47]) (by simp;omega)
     rw [← e] at this
     simp [rvUrl,tx,num,bs_size,e1,e2,e3,e4,bs_append,bs_inj]
     refine this _ ?_ ?_ ?_<;>simp [tx,num]
 · simp [rvUrl,tx,num,bs_size,e1,e2,bs_append,hw]
   refine ⟨by omega,by omega,?_⟩
   simp [ltext,hw]
end Go.Proofs
end
section
namespace Go.Proofs
open Go.PW Go.KP
attribute [local simp] RV.cells RV.one PV.cells PV.solid PV.one vals? allVal mkAgg setAt RV.ofCells elems PV.killL
variable [GF]
theorem urlok_from3 (u:LUrl) (hs:u.Small) (hw:lweb u.scheme=true) (st:St) (h1:st.env 1=.ptr 1 0) (hm:st.mem 1=.box [.val (tx u.scheme),.val (tx u.user),.val (tx u.host),.val (num u.port),.val (tx u.path),.val (tx u.query),.val (tx u.frag),.val (.bool u.hasQ),.val (.bool u.hasF)]) :
 EC Tryz.prog ir217_from3 st (K:=⟨RetP [.t 2] (.val (.bool (lonly u.user [47,63,35,64] && lhost u.host && decide (0≤u.port∧u.port≤65535) && decide (u.port≠lusual u.scheme) && decide (0 < u.path.length) && decide ((u.path.getD 0 0).toNat=47))))⟩):=by
 unfold ir217_from3
 obtain ⟨s1,s2,s3,s4,s5,s6,s7⟩:=hs
 have e3:(⟨#[47,63,35,64]⟩:ByteArray)=bs [47,63,35,64]:=rfl
 simp [h1,hm,tx,num,bs_size,e3]
 refine callX_val rfl rfl (.inl rfl) (c_l01Only u.user [47,63,35,64] s2 (by simp)) ?_
 cases a1:lonly u.user [47,63,35,64] with
 | false=>simp [h1,hm,tx,num,bs_size]
 | true=>
  simp [h1,hm,tx,num,bs_size]
  refine callX_val rfl rfl (.inl rfl) (c_l01Host u.host s3) ?_
  cases a2:lhost u.host with
  | false=>simp [h1,hm,tx,num,bs_size]
  | true=>
   simp [h1,hm,tx,num,bs_size]
   refine callX_val rfl rfl (.inl rfl) (c_l01In .i64 u.port 0 65535) ?_
   cases a3:decide (0≤u.port∧u.port≤65535) with
   | false=>simp [h1,hm,tx,num,bs_size]
   | true=>
    simp [h1,hm,tx,num,bs_size]
    refine callX_val rfl rfl (.inl rfl) (c_l01Usual u.scheme) ?_
    by_cases a4:u.port=lusual u.scheme
    · simp [h1,hm,tx,num,bs_size,a4]
    · simp [h1,hm,tx,num,bs_size,a4]
      by_cases a5:0 < u.path.length
      · have a5':u.path≠[]:=fun e=>by simp [e] at a5
        have e7:((u.path[0].toNat:Int)=47)↔u.path[0].toNat=47:=by omega
        simp [h1,hm,tx,num,bs_size,byteAt_bs,a4,a5,a5',e7,List.getElem?_eq_getElem a5]
        by_cases h47:u.path[0].toNat=47
        · simp [h47]
        · have h47':((u.path[0].toNat:Int) == 47)=false:=by simp;omega
          rw [h47'];simp [h47]
      · simp [h1,hm,tx,num,bs_size,a4,a5]
def urlTail (u:LUrl):Bool:=
 if lweb u.scheme then lonly u.user [47,63,35,64] && lhost u.host && decide (0≤u.port∧u.port≤65535) && decide (u.port≠lusual u.scheme) && decide (0 < u.path.length) && decide ((u.path.getD 0 0).toNat=47)
 else decide (u.user=[]) && decide (u.host=[]) && decide (u.port=0) && !u.hasQ && !u.hasF
theorem urlok_from2 (u:LUrl) (hs:u.Small) (st:St) (h1:st.env 1=.ptr 1 0) (hm:st.mem 1=.box [.val (tx u.scheme),.val (tx u.user),.val (tx u.host),.val (num u.port),.val (tx u.path),.val (tx u.query),.val (tx u.frag),.val (.bool u.hasQ),.val (.bool u.hasF)]) :
 EC Tryz.prog ir217_from2 st (K:=⟨RetP [.t 2] (.val (.bool (urlTail u)))⟩):=by
 unfold ir217_from2
 have e3:(⟨#[]⟩:ByteArray)=bs []:=rfl
 simp [h1,hm,tx,num,bs_size]
 refine callS_val rfl rfl (.inl rfl) (c_l01Web u.scheme) ?_
 cases hw:lweb u.scheme with
 | true=>
  simp [h1,hm,tx,num,bs_size]
  rw [show urlTail u=_ by unfold urlTail;rw [hw,if_pos rfl]]
  refine urlok_from3 u hs hw _ ?_ ?_<;>simp [h1,hm,tx,num]
 | false=>
  rw [show urlTail u=_ by unfold urlTail;rw [hw,if_neg (by simp)]]
  by_cases a1:u.user=[]
  · by_cases a2:u.host=[]
    · by_cases a3:u.port=0
      · cases a4:u.hasQ with
        | true=>simp [h1,hm,tx,num,bs_size,e3,bs_inj,a1,a2,a3,a4]
        | false=>simp [h1,hm,tx,num,bs_size,e3,bs_inj,a1,a2,a3,a4]
      · simp [h1,hm,tx,num,bs_size,e3,bs_inj,a1,a2,a3]
    · simp [h1,hm,tx,num,bs_size,e3,bs_inj,a1,a2]
  · simp [h1,hm,tx,num,bs_size,e3,bs_inj,a1]
structure UO (st:St) (u:LUrl):Prop where
 e1:st.env 1=.ptr 1 0
 m1:st.mem 1=.box [.val (tx u.scheme),.val (tx u.user),.val (tx u.host),.val (num u.port),.val (tx u.path),.val (tx u.query),.val (tx u.frag),.val (.bool u.hasQ),.val (.bool u.hasF)]
section
variable {Ks:Kx (St→Prop)} {kx:Kx (RV→St→Prop)} {st:St} {u:LUrl} {b:Bool}
def bad43 (u:LUrl):Bool:=decide (100 < (ltext u).length)
theorem okops43 (hs:u.Small) (h:UO st u) (hb:st.env 45=.val (.bool b)) (hK:∀ st',UO st' u→st'.env 50=.val (.bool (b || bad43 u))→Ks.k st'):EO Tryz.prog ir217_ops1_43 st (Ks:=Ks) (kx:=kx):=by
 unfold ir217_ops1_43
 obtain ⟨e1,m1⟩:=h
 cases b with
 | true=>
  simp [hb]
  refine hK _ ⟨?_,?_⟩ ?_<;>simp [e1,m1]
 | false=>
  simp [hb,e1,m1]
  refine callS_val rfl rfl (.inl rfl) (c_l01Text u hs) ?_
  have e:((100:Int) < ((ltext u).length:Int))↔100 < (ltext u).length:=by omega
  simp [hb,e1,m1,tx,bs_size]
  refine hK _ ⟨?_,?_⟩ ?_<;>simp [e1,m1,bad43,e,tx,num]
def bad37 (u:LUrl):Bool:=!lonly u.frag [] || bad43 u
theorem okops37 (hs:u.Small) (h:UO st u) (hb:st.env 39=.val (.bool b)) (hK:∀ st',UO st' u→st'.env 50=.val (.bool (b || bad37 u))→Ks.k st'):EO Tryz.prog ir217_ops1_37 st (Ks:=Ks) (kx:=kx):=by
 unfold ir217_ops1_37
 have e3:(⟨#[]⟩:ByteArray)=bs []:=rfl
 cases b with
 | true=>
  simp [hb]
  refine okops43 (b:=true) hs ⟨?_,?_⟩ ?_ (fun st' q1 q2=>hK st' q1 ?_)
  · simp [h.e1]
  · simp [h.m1]
  · simp
  · simpa using q2
 | false=>
  simp [hb,h.e1,h.m1,e3,tx]
  refine callS_val rfl rfl (.inl rfl) (c_l01Only u.frag [] hs.2.2.2.2.2.1 (by simp)) ?_
  simp [hb,e3,tx]
  refine okops43 (b:=!lonly u.frag []) hs ⟨?_,?_⟩ ?_ (fun st' q1 q2=>hK st' q1 ?_)
  · simp [h.e1]
  · simp [h.m1]
  · simp
  · simpa [bad37] using q2
def bad31 (u:LUrl):Bool:=!lonly u.query [35] || bad37 u
theorem okops31 (hs:u.Small) (h:UO st u) (hb:st.env 33=.val (.bool b)) (hK:∀ st',UO st' u→st'.env 50=.val (.bool (b || bad31 u))→Ks.k st'):EO Tryz.prog ir217_ops1_31 st (Ks:=Ks) (kx:=kx):=by
 unfold ir217_ops1_31
 have e3:(⟨#[35]⟩:ByteArray)=bs [35]:=rfl
 cases b with
 | true=>
  simp [hb]
  refine okops37 (b:=true) hs ⟨?_,?_⟩ ?_ (fun st' q1 q2=>hK st' q1 ?_)
  · simp [h.e1]
  · simp [h.m1]
  · simp
  · simpa using q2
 | false=>
  simp [hb,h.e1,h.m1,e3,tx]
  refine callS_val rfl rfl (.inl rfl) (c_l01Only u.query [35] hs.2.2.2.2.1 (by simp)) ?_
  simp [hb,e3,tx]
  refine okops37 (b:=!lonly u.query [35]) hs ⟨?_,?_⟩ ?_ (fun st' q1 q2=>hK st' q1 ?_)
  · simp [h.e1]
  · simp [h.m1]
  · simp
  · simpa [bad31] using q2
def bad25 (u:LUrl):Bool:=!lonly u.path [63,35] || bad31 u
theorem okops25 (hs:u.Small) (h:UO st u) (hb:st.env 27=.val (.bool b)) (hK:∀ st',UO st' u→st'.env 50=.val (.bool (b || bad25 u))→Ks.k st'):EO Tryz.prog ir217_ops1_25 st (Ks:=Ks) (kx:=kx):=by
 unfold ir217_ops1_25
 have e3:(⟨#[63,35]⟩:ByteArray)=bs [63,35]:=rfl
 cases b with
 | true=>
  simp [hb]
  refine okops31 (b:=true) hs ⟨?_,?_⟩ ?_ (fun st' q1 q2=>hK st' q1 ?_)
  · simp [h.e1]
  · simp [h.m1]
  · simp
  · simpa using q2
 | false=>
  simp [hb,h.e1,h.m1,e3,tx]
  refine callS_val rfl rfl (.inl rfl) (c_l01Only u.path [63,35] hs.2.2.2.1 (by simp)) ?_
  simp [hb,e3,tx]
  refine okops31 (b:=!lonly u.path [63,35]) hs ⟨?_,?_⟩ ?_ (fun st' q1 q2=>hK st' q1 ?_)
  · simp [h.e1]
  · simp [h.m1]
  · simp
  · simpa [bad25] using q2
def bad15 (u:LUrl):Bool:=(!u.hasF && !decide (u.frag=[])) || bad25 u
theorem okops15 (hs:u.Small) (h:UO st u) (hb:st.env 17=.val (.bool b)) (hK:∀ st',UO st' u→st'.env 50=.val (.bool (b || bad15 u))→Ks.k st'):EO Tryz.prog ir217_ops1_15 st (Ks:=Ks) (kx:=kx):=by
 unfold ir217_ops1_15
 have e3:(⟨#[]⟩:ByteArray)=bs []:=rfl
 cases b with
 | true=>
  simp [hb]
  refine okops25 (b:=true) hs ⟨?_,?_⟩ ?_ (fun st' q1 q2=>hK st' q1 ?_)
  · simp [h.e1]
  · simp [h.m1]
  · simp
  · simpa using q2
 | false=>
  cases hf:u.hasF with
  | true=>
   simp [hb,h.e1,h.m1,e3,tx,hf]
   refine okops25 (b:=false) hs ⟨?_,?_⟩ ?_ (fun st' q1 q2=>hK st' q1 ?_)
   · simp [h.e1]
   · simp [h.m1]
   · simp
   · simpa [bad15,hf] using q2
  | false=>
   simp [hb,h.e1,h.m1,e3,tx,hf,bs_inj]
   refine okops25 (b:=!decide (u.frag=[])) hs ⟨?_,?_⟩ ?_ (fun st' q1 q2=>hK st' q1 ?_)
   · simp [h.e1]
   · simp [h.m1]
   · simp
   · simpa [bad15,hf] using q2
end
theorem c_l01OK (u:LUrl) (hs:u.Small):CallOK Tryz.prog 217 [.val (rvUrl u)] (.ret (.val (.bool (lurlOK u))) []) []:=by
 refine call_val mixed ok217 rfl (fun _=>rfl) ?_
 unfold ir217
 rw [evalC_intro]
 have hlu:lurlOK u=(lscheme u.scheme && (u.hasQ || decide (u.query=[])) && (u.hasF || decide (u.frag=[])) && lonly u.path [63,35] && lonly u.query [35] && lonly u.frag [] && decide ((ltext u).length≤100) && urlTail u):=rfl
 have hend:∀ st':St,UO st' u→∀ b,st'.env 50=.val (.bool (b || bad15 u))→b=(!lscheme u.scheme || (!u.hasQ && !decide (u.query=[]))) →
  CD (st'.env 50) (A:=⟨EC Tryz.prog (.seq (.reg [⟨some 2,.mov (.k (.val (.bool false))),none⟩]) .ret) st' (K:=⟨fun e st'=>ET e st' (Ks:=⟨fun st'=>EC Tryz.prog ir217_from2 st' (K:=⟨RetP [.t 2] (.val (.bool (lurlOK u)))⟩)⟩) (K:=⟨RetP [.t 2] (.val (.bool (lurlOK u)))⟩)⟩)⟩)
   (B:=⟨EC Tryz.prog .skip st' (K:=⟨fun e st'=>ET e st' (Ks:=⟨fun st'=>EC Tryz.prog ir217_from2 st' (K:=⟨RetP [.t 2] (.val (.bool (lurlOK u)))⟩)⟩) (K:=⟨RetP [.t 2] (.val (.bool (lurlOK u)))⟩)⟩)⟩):=by
  intro st' h b hb hbb
  have hlu2:lurlOK u=(!(b || bad15 u) && urlTail u):=by
   rw [hlu,hbb]
   unfold bad15 bad25 bad31 bad37 bad43
   have e:decide ((ltext u).length≤100)=!decide (100 < (ltext u).length):=by
    by_cases h:(ltext u).length≤100
    · have h':¬ 100 < (ltext u).length:=by omega
      simp [h,h']
    · have h':100 < (ltext u).length:=by omega
      simp [h,h']
   rw [e]
   cases lscheme u.scheme<;>cases u.hasQ<;>cases u.hasF<;>cases decide (u.query=[])<;>cases decide (u.frag=[])<;>cases lonly u.path [63,35]<;>cases lonly u.query [35]<;>cases lonly u.frag []<;>cases decide (100 < (ltext u).length)<;>rfl
  rw [hb,hlu2]
  cases (b || bad15 u) with
  | true=>simp
  | false=>
   simp only [evalC_skip,evalC_reg,evalC_draw,evalC_seq,evalC_cond,evalC_block,evalC_exit,evalC_ret,then_normal,then_exit,then_ret,then_pan,inBlock_normal,inBlock_ret,inBlock_pan,inBlock_exit,condS_bool,evalOps_nil,evalOps_cons,evalX_nil,evalX_cons,guardS_none,guardS_some,setD_some,setD_none,ev_t,ev_k,Option.getD_some,Option.getD_none,stepE_mov,stepE_pick,stepE_alloc,stepE_box,stepE_build,stepE_store,stepE_app,stepE_nilck,stepE_bin,stepE_eqb,stepE_eqs,stepE_un,stepE_conv,stepE_faddr,stepE_fld,stepE_load,stepE_iaddr,stepE_idx,stepE_slc,stepE_ext,stepE_lens,stepE_len,stepE_tostr,stepE_mkfn,stepE_ifc,stepE_mn,stepE_mx,stepE_mx4,stepE_mks,stepE_isnil,stepE_lit,stepE_call,stepE_callv,stepX_mov,stepX_nilck,stepX_bin,stepX_eqb,stepX_eqs,stepX_un,stepX_conv,stepX_faddr,stepX_fld,stepX_load,stepX_iaddr,stepX_idx,stepX_slc,stepX_ext,stepX_lens,stepX_len,stepX_tostr,stepX_mkfn,stepX_ifc,stepX_mn,stepX_mx,stepX_mx4,stepX_pick,stepX_build,stepX_lit,stepX_call,stepX_callv,binS_int,binS_str,binI_add,binI_sub,binI_mul,binI_quo,binI_rem,binI_eql,binI_neq,binI_lss,binI_leq,binI_gtr,binI_geq,binStr_add,binStr_eql,binStr_neq,unS_not,unS_neg,upd_app,envOf_nil,envOf_cons,memOf_nil,memOf_cons,RetP_ret,RetP_normal,resP_t,resP_tt,fin_env,frz_val,frz_emp,frz_own,pl_val,pl_emp,kill_val,kill_own,kill_ptr,kill_emp,kill_elt,kill_at,kill_undef,kill_fn,kill_skip,killM_row,killM_box,killM_dead,Kx_k,fillP_nil,fillP_cons,slc_lo,slc_hi,slc_lohi,slcl_lo,slcl_hi,Option.map_some,Option.map_none,iteP_true,iteP_false,onBool_val,onBool_skip,nilck_ptr,nilck_elt,nilck_at,nilck_fn,eqb_val,eqs_val,conv_val,faddr_ptr,faddr_elt,faddr_at,fld_val,fld_agg,load_ptr,loadBox_box,load_elt,loadRow_row,load_at,iaddr_lst,iaddr_own,iaddrRow_row,idx_val,ext_tup,lens_val,len_val,len_emp,len_own,lenRow_row,tostr_val,tostr_emp,tostr_own,tostrRow_row,ifc_val,mn_val,mx_val,mx4_val,lit_some,fn_fn,mks_val,isnil_nilif,isnil_ifc,isnil_emp,isnil_list,isnil_own,isnilRow_row,store_ptrK,storeBox_box,store_eltK,storeRow_row,add_some,app_own,app_emp,appRow_row,addOf_list,addOf_emp,addOf_own,rowOf_row]
   refine iteP_intro (fun h=>by cases h) (fun _=>?_)
   simp only [evalC_skip,evalC_reg,evalC_draw,evalC_seq,evalC_cond,evalC_block,evalC_exit,evalC_ret,then_normal,then_exit,then_ret,then_pan,inBlock_normal,inBlock_ret,inBlock_pan,inBlock_exit,condS_bool,evalOps_nil,evalOps_cons,evalX_nil,evalX_cons,guardS_none,guardS_some,setD_some,setD_none,ev_t,ev_k,Option.getD_some,Option.getD_none,stepE_mov,stepE_pick,stepE_alloc,stepE_box,stepE_build,stepE_store,stepE_app,stepE_nilck,stepE_bin,stepE_eqb,stepE_eqs,stepE_un,stepE_conv,stepE_faddr,stepE_fld,stepE_load,stepE_iaddr,stepE_idx,stepE_slc,stepE_ext,stepE_lens,stepE_len,stepE_tostr,stepE_mkfn,stepE_ifc,stepE_mn,stepE_mx,stepE_mx4,stepE_mks,stepE_isnil,stepE_lit,stepE_call,stepE_callv,stepX_mov,stepX_nilck,stepX_bin,stepX_eqb,stepX_eqs,stepX_un,stepX_conv,stepX_faddr,stepX_fld,stepX_load,stepX_iaddr,stepX_idx,stepX_slc,stepX_ext,stepX_lens,stepX_len,stepX_tostr,stepX_mkfn,stepX_ifc,stepX_mn,stepX_mx,stepX_mx4,stepX_pick,stepX_build,stepX_lit,stepX_call,stepX_callv,binS_int,binS_str,binI_add,binI_sub,binI_mul,binI_quo,binI_rem,binI_eql,binI_neq,binI_lss,binI_leq,binI_gtr,binI_geq,binStr_add,binStr_eql,binStr_neq,unS_not,unS_neg,upd_app,envOf_nil,envOf_cons,memOf_nil,memOf_cons,RetP_ret,RetP_normal,resP_t,resP_tt,fin_env,frz_val,frz_emp,frz_own,pl_val,pl_emp,kill_val,kill_own,kill_ptr,kill_emp,kill_elt,kill_at,kill_undef,kill_fn,kill_skip,killM_row,killM_box,killM_dead,Kx_k,fillP_nil,fillP_cons,slc_lo,slc_hi,slc_lohi,slcl_lo,slcl_hi,Option.map_some,Option.map_none,iteP_true,iteP_false,onBool_val,onBool_skip,nilck_ptr,nilck_elt,nilck_at,nilck_fn,eqb_val,eqs_val,conv_val,faddr_ptr,faddr_elt,faddr_at,fld_val,fld_agg,load_ptr,loadBox_box,load_elt,loadRow_row,load_at,iaddr_lst,iaddr_own,iaddrRow_row,idx_val,ext_tup,lens_val,len_val,len_emp,len_own,lenRow_row,tostr_val,tostr_emp,tostr_own,tostrRow_row,ifc_val,mn_val,mx_val,mx4_val,lit_some,fn_fn,mks_val,isnil_nilif,isnil_ifc,isnil_emp,isnil_list,isnil_own,isnilRow_row,store_ptrK,storeBox_box,store_eltK,storeRow_row,add_some,app_own,app_emp,appRow_row,addOf_list,addOf_emp,addOf_own,rowOf_row]
   exact urlok_from2 u hs st' h.e1 h.m1
 simp [initSt,avPVs,avPV,avBoxesL,avBoxes,rvUrl,tx,num,bs_size]
 refine callS_val rfl rfl (.inl rfl) (c_l01Scheme u.scheme hs.1) ?_
 have e3:(⟨#[]⟩:ByteArray)=bs []:=rfl
 cases b1:lscheme u.scheme with
 | false=>
  simp [tx,num,bs_size]
  refine okops15 (b:=true) hs ⟨?_,?_⟩ ?_ (fun st' q1 q2=>hend st' q1 true q2 (by simp [b1]))
  · simp
  · simp [tx,num]
  · simp
 | true=>
  cases hq:u.hasQ with
  | true=>
   simp [tx,num,bs_size,hq]
   refine okops15 (b:=false) hs ⟨?_,?_⟩ ?_ (fun st' q1 q2=>hend st' q1 false q2 (by simp [b1,hq]))
   · simp
   · simp [tx,num,hq]
   · simp
  | false=>
   simp [tx,num,bs_size,hq,e3,bs_inj]
   refine okops15 (b:=!decide (u.query=[])) hs ⟨?_,?_⟩ ?_ (fun st' q1 q2=>hend st' q1 _ q2 (by simp [b1,hq]))
   · simp
   · simp [tx,num,hq]
   · simp
end Go.Proofs
end
section
namespace Go.Proofs
open Go.PW Go.KP
attribute [local simp] RV.cells RV.one PV.cells PV.solid PV.one vals? allVal mkAgg setAt RV.ofCells elems PV.killL
variable [GF]
abbrev prs (r:LUrl×Bool):Kx (PExit→St→Prop):=⟨RetP [.c 2 true 9,.t 3] (parseRes r)⟩
structure UP (st:St) (u:LUrl) (r:Tx):Prop where
 e2:st.env 2=.ptr 2 0
 e5:st.env 5=.ptr 5 0
 e6:st.env 6=.val (tx r)
 m2:st.mem 2=.box (urlCells LUrl.zero)
 m5:st.mem 5=.box (urlCells u)
theorem drop_len (t:Tx) (k:Nat):List.drop k (List.take t.length t)=t.drop k:=by rw [List.take_length]
theorem parse_from18 (u:LUrl) (hs:u.Small) (r:Tx) (st:St) (h:UP st u r):EC Tryz.prog ir191_from18 st (K:=prs (u,lurlOK u)):=by
 unfold ir191_from18
 obtain ⟨e2,e5,e6,m2,m5⟩:=h
 simp [e2,e5,m2,m5,urlCells,allVal,tx,num]
 refine callX_val rfl rfl (.inl rfl) (c_l01OK u hs) ?_
 simp [e2,e5,m2,m5,urlCells,allVal,tx,num]
 refine resP_url (id:=2) ?_ ?_ ?_
 · simp [e2]
 · simp [e2,urlCells,tx,num]
 · simp
theorem parse_none (st:St) (e2:st.env 2=.ptr 2 0) (m2:st.mem 2=.box (urlCells LUrl.zero)) (e3:st.env 3=.val (.bool false)):RetP [.c 2 true 9,.t 3] (parseRes (LUrl.zero,false)) .ret st:=
 resP_url e2 m2 e3
def portEnd (u:LUrl) (r:Tx):LUrl×Bool:=match lport u.scheme r with
 | none=>(LUrl.zero,false)
 | some p=>({ u with port:=p },lurlOK { u with port:=p })
theorem lnumber_le {t:Tx} {n:Int} (h:lnumber t=some n):n≤1000000000000000000:=by
 obtain ⟨_,_,u,h1,h2,h3,h4⟩:=lnumber_some h
 have:=lval_lt u h2
 have h5:lval u < 10 ^ 18:=Nat.lt_of_lt_of_le this (Nat.pow_le_pow_right (by omega) h3)
 have h6:(10:Nat) ^ 18=1000000000000000000:=by decide
 rcases h4 with h4 | h4<;>omega
theorem parse_from17 (u:LUrl) (hs:u.Small) (hp:u.port=0) (r:Tx) (hr:r.length < 1099511627776) (st:St) (h:UP st u r) (e4:st.env 4=.val (num (lfind r 58))):EC Tryz.prog ir191_from17 st (K:=prs (portEnd u r)):=by
 unfold ir191_from17
 obtain ⟨e2,e5,e6,m2,m5⟩:=h
 have hle:=lfind_le r 58
 by_cases hc:58∈r
 · have hlt:=lfind_lt.2 hc
   have g1:((lfind r 58:Nat):Int) < (r.length:Int):=by omega
   have g2:IntKind.i64.wrap ((lfind r 58:Nat)+1:Int)=((lfind r 58+1:Nat):Int):=by rw [wrap_i64 (by omega) (by omega)];omega
   have g3:lfind r 58+1≤r.length:=by omega
   have g4:(0:Int)≤((lfind r 58:Nat):Int)+1:=by omega
   simp [e2,e4,e5,e6,m2,m5,tx,num,bs_size,g1,g2,g3,g4,bs_extract,drop_len,hlt]
   have hn:=c_l00Number (lcutB r 58) (by have:=lcutB_len r 58;omega)
   cases hnum:lnumber (lcutB r 58) with
   | none=>
    rw [hnum] at hn
    refine callS_two rfl rfl (.inl rfl) hn ?_
    rw [show portEnd u r=(LUrl.zero,false) by simp [portEnd,lport,hc,hnum]]
    simp [e2,e4,e5,e6,m2,m5,tx,num,urlCells]
    refine parse_none _ ?_ ?_ ?_
    · simp [e2]
    · simp [urlCells,LUrl.zero,tx,num,bs]
    · simp
   | some n=>
    have hn1:=lnumber_le hnum
    rw [hnum] at hn
    refine callS_two rfl rfl (.inl rfl) hn ?_
    by_cases hin:1≤n∧n≤65535
    · simp [e2,e4,e5,e6,m2,m5,tx,num,urlCells]
      refine callS_val rfl rfl (.inl rfl) (c_l01In .i64 n 1 65535) ?_
      simp [e2,e4,e5,e6,m2,m5,tx,num,urlCells,hin]
      refine callS_val rfl rfl (.inl rfl) (c_l01Usual u.scheme) ?_
      by_cases hu:n=lusual u.scheme
      · have e:portEnd u r=(u,lurlOK u):=by
         have hl:lport u.scheme r=some 0:=by
          simp only [lport,hc,hnum,hin,if_true,and_self]
          rw [if_pos hu]
         have:({ u with port:=0 }:LUrl)=u:=by rw [← hp]
         simp only [portEnd,hl,this]
        rw [e]
        simp [e2,e4,e5,e6,m2,m5,tx,num,urlCells,hu]
        refine parse_from18 u hs r _ ⟨?_,?_,?_,?_,?_⟩<;>simp [e2,e5,e6,m2,m5,urlCells,tx,num]
      · have e:portEnd u r=({ u with port:=n },lurlOK { u with port:=n }):=by
         simp only [portEnd,lport,hc,hnum,hin,if_true,and_self,hu,if_false]
        rw [e]
        simp [e2,e4,e5,e6,m2,m5,tx,num,urlCells,hu]
        refine parse_from18 { u with port:=n } ?_ r _ ⟨?_,?_,?_,?_,?_⟩
        · exact ⟨hs.1,hs.2.1,hs.2.2.1,hs.2.2.2.1,hs.2.2.2.2.1,hs.2.2.2.2.2.1,by show n≤_;omega⟩
        all_goals simp [e2,e5,e6,m2,m5,urlCells,tx,num]
    · rw [show portEnd u r=(LUrl.zero,false) by simp only [portEnd,lport,hc,hnum,hin,if_true,if_false]]
      simp [e2,e4,e5,e6,m2,m5,tx,num,urlCells]
      refine callS_val rfl rfl (.inl rfl) (c_l01In .i64 n 1 65535) ?_
      have hd:decide (1≤n∧n≤65535)=false:=decide_eq_false hin
      rw [hd]
      simp [e2,e4,e5,e6,m2,m5,tx,num,urlCells]
      refine parse_none _ ?_ ?_ ?_
      · simp [e2]
      · simp [urlCells,LUrl.zero,tx,num,bs]
      · simp
 · have hge:lfind r 58=r.length:=by have:=mt lfind_lt.1 hc;omega
   have e:portEnd u r=(u,lurlOK u):=by
    simp only [portEnd,lport,hc,if_false]
    have:({ u with port:=0 }:LUrl)=u:=by rw [← hp]
    rw [this]
   rw [e]
   simp [e2,e4,e5,e6,m2,m5,tx,num,bs_size,hge]
   refine parse_from18 u hs r _ ⟨?_,?_,?_,?_,?_⟩<;>simp [e2,e5,e6,m2,m5,urlCells,tx,num]
theorem parse_from15 (sc us pa qu fr:Tx) (hq hf:Bool) (h1:sc.length < 1099511627776) (h2:us.length < 1099511627776) (h3:pa.length < 1099511627776) (h4:qu.length < 1099511627776) (h5:fr.length < 1099511627776) (r:Tx) (hr:r.length < 1099511627776) (st:St)
 (h:UP st ⟨sc,us,[],0,pa,qu,fr,hq,hf⟩ r):EC Tryz.prog ir191_from15 st (K:=prs (portEnd ⟨sc,us,llow (lcutA r 58),0,pa,qu,fr,hq,hf⟩ r)):=by
 unfold ir191_from15
 obtain ⟨e2,e5,e6,m2,m5⟩:=h
 have hle:=lfind_le r 58
 simp [e2,e5,e6,m2,m5,tx,num,bs_size]
 refine callS_val rfl rfl (.inl rfl) (c_l01Find r 58 hr) ?_
 simp [e2,e5,e6,m2,m5,tx,num,bs_size,hle,bs_extract]
 refine callS_val rfl rfl (.inl rfl) (c_l01Lower (lcutA r 58) (by have:=lcutA_len r 58;omega)) ?_
 simp [e2,e5,e6,m2,m5,tx,num,bs_size,urlCells]
 refine parse_from17 ⟨sc,us,llow (lcutA r 58),0,pa,qu,fr,hq,hf⟩ ?_ rfl r hr _ ⟨?_,?_,?_,?_,?_⟩ ?_
 · refine ⟨h1,h2,?_,h3,h4,h5,by show (0:Int)≤_;omega⟩
   have:=lcutA_len r 58
   simp [llow];omega
 all_goals simp [e2,e5,e6,m2,m5,urlCells,tx,num]
theorem parse_from14 (sc pa qu fr:Tx) (hq hf:Bool) (h1:sc.length < 1099511627776) (h3:pa.length < 1099511627776) (h4:qu.length < 1099511627776) (h5:fr.length < 1099511627776) (r:Tx) (hr:r.length < 1099511627776) (st:St)
 (h:UP st ⟨sc,[],[],0,pa,qu,fr,hq,hf⟩ r):EC Tryz.prog ir191_from14 st (K:=prs (portEnd ⟨sc,if 64∈r then lcutA r 64 else [],llow (lcutA (if 64∈r then lcutB r 64 else r) 58),0,pa,qu,fr,hq,hf⟩ (if 64∈r then lcutB r 64 else r))):=by
 unfold ir191_from14
 obtain ⟨e2,e5,e6,m2,m5⟩:=h
 have hle:=lfind_le r 64
 simp [e2,e5,e6,m2,m5,tx,num,bs_size]
 refine callS_val rfl rfl (.inl rfl) (c_l01Find r 64 hr) ?_
 by_cases hc:64∈r
 · have hlt:=lfind_lt.2 hc
   have g2:IntKind.i64.wrap ((lfind r 64:Nat)+1:Int)=((lfind r 64+1:Nat):Int):=by rw [wrap_i64 (by omega) (by omega)];omega
   have g3:lfind r 64+1≤r.length:=by omega
   have g4:(0:Int)≤((lfind r 64:Nat):Int)+1:=by omega
   simp [e2,e5,e6,m2,m5,tx,num,bs_size,urlCells,hlt,hle,g2,g3,g4,bs_extract,drop_len]
   have e:(if 64∈r then lcutB r 64 else r)=lcutB r 64:=if_pos hc
   rw [if_pos hc,e]
   refine parse_from15 sc (lcutA r 64) pa qu fr hq hf h1 (by have:=lcutA_len r 64;omega) h3 h4 h5 (lcutB r 64) (by have:=lcutB_len r 64;omega) _ ⟨?_,?_,?_,?_,?_⟩<;>simp [e2,e5,e6,m2,m5,urlCells,tx,num,lcutA,lcutB]
 · have hge:lfind r 64=r.length:=by have:=mt lfind_lt.1 hc;omega
   simp [e2,e5,e6,m2,m5,tx,num,bs_size,hge]
   have e:(if 64∈r then lcutB r 64 else r)=r:=if_neg hc
   rw [if_neg hc,e]
   refine parse_from15 sc [] pa qu fr hq hf h1 (by simp) h3 h4 h5 r hr _ ⟨?_,?_,?_,?_,?_⟩<;>simp [e2,e5,e6,m2,m5,urlCells,tx,num]
def userEnd (sc pa qu fr:Tx) (hq hf:Bool) (r:Tx):LUrl×Bool:=
 portEnd ⟨sc,if 64∈r then lcutA r 64 else [],llow (lcutA (if 64∈r then lcutB r 64 else r) 58),0,pa,qu,fr,hq,hf⟩ (if 64∈r then lcutB r 64 else r)
theorem parse_from12 (sc qu fr:Tx) (hq hf:Bool) (h1:sc.length < 1099511627776) (h4:qu.length < 1099511627776) (h5:fr.length < 1099511627776) (r:Tx) (hr:r.length < 1099511627776) (st:St)
 (h:UP st ⟨sc,[],[],0,r.drop (lfind r 47),qu,fr,hq,hf⟩ r) (e4:st.env 4=.val (num (lfind r 47))):EC Tryz.prog ir191_from12 st (K:=prs (userEnd sc (if 47∈r then r.drop (lfind r 47) else [47]) qu fr hq hf (lcutA r 47))):=by
 unfold ir191_from12
 obtain ⟨e2,e5,e6,m2,m5⟩:=h
 have hle:=lfind_le r 47
 have e3:(⟨#[]⟩:ByteArray)=bs []:=rfl
 by_cases hc:47∈r
 · have hlt:=lfind_lt.2 hc
   have hne:¬ r.drop (lfind r 47)=[]:=by
    intro e;have:=congrArg List.length e;simp at this;omega
   have hne2:¬ r.length≤lfind r 47:=by omega
   rw [if_pos hc]
   simp [e2,e4,e5,e6,m2,m5,tx,num,bs_size,urlCells,e3,bs_inj,hne,hne2,hle,bs_extract]
   refine parse_from14 sc (r.drop (lfind r 47)) qu fr hq hf h1 (by simp;omega) h4 h5 (lcutA r 47) (by have:=lcutA_len r 47;omega) _ ⟨?_,?_,?_,?_,?_⟩<;>simp [e2,e5,e6,m2,m5,urlCells,tx,num,lcutA]
 · have hge:lfind r 47=r.length:=by have:=mt lfind_lt.1 hc;omega
   have e4':(⟨#[47]⟩:ByteArray)=bs [47]:=rfl
   rw [if_neg hc]
   simp [e2,e4,e5,e6,m2,m5,tx,num,bs_size,urlCells,e3,e4',bs_inj,hge,bs_extract]
   refine parse_from14 sc [47] qu fr hq hf h1 (by simp) h4 h5 (lcutA r 47) (by have:=lcutA_len r 47;omega) _ ⟨?_,?_,?_,?_,?_⟩<;>simp [e2,e5,e6,m2,m5,urlCells,tx,num,lcutA,hge]
def pathEnd (sc qu fr:Tx) (hq hf:Bool) (r:Tx):LUrl×Bool:=userEnd sc (if 47∈r then r.drop (lfind r 47) else [47]) qu fr hq hf (lcutA r 47)
theorem parse_from10 (sc qu fr:Tx) (hq hf:Bool) (h1:sc.length < 1099511627776) (h4:qu.length < 1099511627776) (h5:fr.length < 1099511627776) (r:Tx) (hr:r.length < 1099511627776) (st:St)
 (h:UP st ⟨sc,[],[],0,[],qu,fr,hq,hf⟩ r):EC Tryz.prog ir191_from10 st (K:=prs (pathEnd sc qu fr hq hf r)):=by
 unfold ir191_from10
 obtain ⟨e2,e5,e6,m2,m5⟩:=h
 have hle:=lfind_le r 47
 simp [e2,e5,e6,m2,m5,tx,num,bs_size]
 refine callS_val rfl rfl (.inl rfl) (c_l01Find r 47 hr) ?_
 simp [e2,e5,e6,m2,m5,tx,num,bs_size,hle,bs_extract,urlCells,drop_len]
 refine parse_from12 sc qu fr hq hf h1 h4 h5 r hr _ ⟨?_,?_,?_,?_,?_⟩ ?_<;>simp [e2,e5,e6,m2,m5,urlCells,tx,num]
theorem parse_from9 (sc fr:Tx) (hf:Bool) (h1:sc.length < 1099511627776) (h5:fr.length < 1099511627776) (r:Tx) (hr:r.length < 1099511627776) (st:St)
 (h:UP st ⟨sc,[],[],0,[],[],fr,false,hf⟩ r):EC Tryz.prog ir191_from9 st (K:=prs (pathEnd sc (lcutB r 63) fr (decide (63∈r)) hf (lcutA r 63))):=by
 unfold ir191_from9
 obtain ⟨e2,e5,e6,m2,m5⟩:=h
 have hle:=lfind_le r 63
 simp [e2,e5,e6,m2,m5,tx,num,bs_size]
 refine callS_val rfl rfl (.inl rfl) (c_l01Find r 63 hr) ?_
 by_cases hc:63∈r
 · have hlt:=lfind_lt.2 hc
   have g2:IntKind.i64.wrap ((lfind r 63:Nat)+1:Int)=((lfind r 63+1:Nat):Int):=by rw [wrap_i64 (by omega) (by omega)];omega
   have g3:lfind r 63+1≤r.length:=by omega
   have g4:(0:Int)≤((lfind r 63:Nat):Int)+1:=by omega
   simp [e2,e5,e6,m2,m5,tx,num,bs_size,urlCells,hlt,hle,g2,g3,g4,bs_extract,drop_len]
   rw [decide_eq_true hc]
   refine parse_from10 sc (lcutB r 63) fr true hf h1 (by have:=lcutB_len r 63;omega) h5 (lcutA r 63) (by have:=lcutA_len r 63;omega) _ ⟨?_,?_,?_,?_,?_⟩<;>simp [e2,e5,e6,m2,m5,urlCells,tx,num,lcutA,lcutB]
 · have hge:lfind r 63=r.length:=by have:=mt lfind_lt.1 hc;omega
   simp [e2,e5,e6,m2,m5,tx,num,bs_size,hge]
   rw [decide_eq_false hc,lcutA_none hc,lcutB_none hc]
   refine parse_from10 sc [] fr false hf h1 (by simp) h5 r hr _ ⟨?_,?_,?_,?_,?_⟩<;>simp [e2,e5,e6,m2,m5,urlCells,tx,num]
theorem parse_from8 (sc:Tx) (h1:sc.length < 1099511627776) (r:Tx) (hr:r.length < 1099511627776) (st:St)
 (h:UP st ⟨sc,[],[],0,[],[],[],false,false⟩ r):EC Tryz.prog ir191_from8 st (K:=prs (lweb1 sc r)):=by
 unfold ir191_from8
 obtain ⟨e2,e5,e6,m2,m5⟩:=h
 have hle:=lfind_le r 35
 have e:lweb1 sc r=pathEnd sc (lcutB (lcutA r 35) 63) (lcutB r 35) (decide (63∈lcutA r 35)) (decide (35∈r)) (lcutA (lcutA r 35) 63):=rfl
 rw [e]
 simp [e2,e5,e6,m2,m5,tx,num,bs_size]
 refine callS_val rfl rfl (.inl rfl) (c_l01Find r 35 hr) ?_
 by_cases hc:35∈r
 · have hlt:=lfind_lt.2 hc
   have g2:IntKind.i64.wrap ((lfind r 35:Nat)+1:Int)=((lfind r 35+1:Nat):Int):=by rw [wrap_i64 (by omega) (by omega)];omega
   have g3:lfind r 35+1≤r.length:=by omega
   have g4:(0:Int)≤((lfind r 35:Nat):Int)+1:=by omega
   simp [e2,e5,e6,m2,m5,tx,num,bs_size,urlCells,hlt,hle,g2,g3,g4,bs_extract,drop_len]
   rw [decide_eq_true hc]
   refine parse_from9 sc (lcutB r 35) true h1 (by have:=lcutB_len r 35;omega) (lcutA r 35) (by have:=lcutA_len r 35;omega) _ ⟨?_,?_,?_,?_,?_⟩<;>simp [e2,e5,e6,m2,m5,urlCells,tx,num,lcutA,lcutB]
 · have hge:lfind r 35=r.length:=by have:=mt lfind_lt.1 hc;omega
   simp [e2,e5,e6,m2,m5,tx,num,bs_size,hge]
   rw [decide_eq_false hc,lcutA_none hc,lcutB_none hc]
   refine parse_from9 sc [] false h1 (by simp) r hr _ ⟨?_,?_,?_,?_,?_⟩<;>simp [e2,e5,e6,m2,m5,urlCells,tx,num]
theorem parse_from5 (sc:Tx) (h1:sc.length < 1099511627776) (r:Tx) (hr:r.length < 1099511627776) (st:St)
 (h:UP st ⟨sc,[],[],0,[],[],[],false,false⟩ r):EC Tryz.prog ir191_from5 st (K:=prs (if lweb sc then if r.take 2=[47,47] then lweb1 sc (r.drop 2) else (LUrl.zero,false) else (⟨sc,[],[],0,lcutA (lcutA r 35) 63,[],[],false,false⟩,lurlOK ⟨sc,[],[],0,lcutA (lcutA r 35) 63,[],[],false,false⟩))):=by
 unfold ir191_from5
 obtain ⟨e2,e5,e6,m2,m5⟩:=h
 have e7:(⟨#[47,47]⟩:ByteArray)=bs [47,47]:=rfl
 simp [e2,e5,e6,m2,m5,tx,num,bs_size,urlCells]
 refine callS_val rfl rfl (.inl rfl) (c_l01Web sc) ?_
 by_cases hw:lweb sc=true
 · rw [if_pos hw]
   by_cases h2:r.length < 2
   · have h2':(r.length:Int) < 2:=by omega
     have ht:¬ r.take 2=[47,47]:=fun e=>by have:=congrArg List.length e;simp at this;omega
     rw [if_neg ht]
     simp [e2,e5,e6,m2,m5,tx,num,bs_size,urlCells,hw,h2']
     refine parse_none _ ?_ ?_ ?_
     · simp [e2]
     · simp [urlCells,LUrl.zero,tx,num,bs]
     · simp
   · have h2':¬ (r.length:Int) < 2:=by omega
     have h2'':(2:Int)≤r.length:=by omega
     have h2n:2≤r.length:=by omega
     by_cases ht:r.take 2=[47,47]
     · rw [if_pos ht]
       simp [e2,e5,e6,m2,m5,tx,num,bs_size,urlCells,hw,h2',h2'',h2n,e7,bs_extract,ht,drop_len]
       refine parse_from8 sc h1 (r.drop 2) (by simp;omega) _ ⟨?_,?_,?_,?_,?_⟩<;>simp [e2,e5,e6,m2,m5,urlCells,tx,num]
     · rw [if_neg ht]
       simp [e2,e5,e6,m2,m5,tx,num,bs_size,urlCells,hw,h2',h2'',h2n,e7,bs_extract,bs_inj,ht]
       refine parse_none _ ?_ ?_ ?_
       · simp [e2]
       · simp [urlCells,LUrl.zero,tx,num,bs]
       · simp
 · rw [if_neg hw]
   have hl1:=lfind_le r 35
   have hl2:=lfind_le (lcutA r 35) 63
   have hl3:=lcutA_len r 35
   have hl4:=lcutA_len (lcutA r 35) 63
   simp [e2,e5,e6,m2,m5,tx,num,bs_size,urlCells,hw]
   refine callS_val rfl rfl (.inl rfl) (c_l01Find r 35 hr) ?_
   simp [e2,e5,e6,m2,m5,tx,num,bs_size,urlCells,hw,hl1,bs_extract]
   refine callS_val rfl rfl (.inl rfl) (c_l01Find (lcutA r 35) 63 (by omega)) ?_
   have hl2':lfind (lcutA r 35) 63≤lfind r 35∧lfind (lcutA r 35) 63≤r.length:=by
    refine ⟨?_,by omega⟩
    have:(lcutA r 35).length≤lfind r 35:=by unfold lcutA;simp;omega
    omega
   have hl2i:((lfind (lcutA r 35) 63:Nat):Int)≤(min (lfind r 35) r.length:Nat):=by omega
   simp [e2,e5,e6,m2,m5,tx,num,bs_size,urlCells,hw,hl1,hl2',bs_extract,allVal]
   refine callX_val rfl rfl (.inl rfl) (c_l01OK ⟨sc,[],[],0,lcutA (lcutA r 35) 63,[],[],false,false⟩ ⟨h1,by simp,by simp,by show (lcutA (lcutA r 35) 63).length < _;omega,by simp,by simp,by show (0:Int)≤_;omega⟩) ?_
   simp [e2,e5,e6,m2,m5,tx,num,bs_size,urlCells,hw,hl1,bs_extract,allVal]
   refine resP_url (id:=2) ?_ ?_ ?_
   · simp [e2]
   · simp [urlCells,tx,num,lcutA]
   · simp
theorem c_l01Parse (t:Tx) (ht:t.length < 1099511627776):CallOK Tryz.prog 191 [.val (tx t)] (.ret (parseRes (lparse t)) []) []:=by
 refine call_val mixed ok191 rfl (fun _=>rfl) ?_
 unfold ir191
 rw [evalC_intro]
 have hle:=lfind_le t 58
 simp [initSt,avPVs,avPV,avBoxesL,avBoxes,tx,num,bs_size]
 refine callS_val rfl rfl (.inl rfl) (c_l01Find t 58 ht) ?_
 by_cases hc:58∈t
 · have hlt:=lfind_lt.2 hc
   have hne:¬ ((lfind t 58:Nat):Int)=(t.length:Int):=by omega
   have hne':¬ lfind t 58=t.length:=by omega
   have g2:IntKind.i64.wrap ((lfind t 58:Nat)+1:Int)=((lfind t 58+1:Nat):Int):=by rw [wrap_i64 (by omega) (by omega)];omega
   have g3:lfind t 58+1≤t.length:=by omega
   have g4:(0:Int)≤((lfind t 58:Nat):Int)+1:=by omega
   simp [tx,num,bs_size,hlt,hle,hne,hne',bs_extract]
   refine callS_val rfl rfl (.inl rfl) (c_l01Lower (lcutA t 58) (by have:=lcutA_len t 58;omega)) ?_
   simp [tx,num,bs_size,hlt,hle,hne,hne',g2,g3,g4,bs_extract,drop_len]
   rw [show lparse t=(if lweb (llow (lcutA t 58)) then if (lcutB t 58).take 2=[47,47] then lweb1 (llow (lcutA t 58)) ((lcutB t 58).drop 2) else (LUrl.zero,false) else (⟨llow (lcutA t 58),[],[],0,lcutA (lcutA (lcutB t 58) 35) 63,[],[],false,false⟩,lurlOK ⟨llow (lcutA t 58),[],[],0,lcutA (lcutA (lcutB t 58) 35) 63,[],[],false,false⟩)) by unfold lparse;rw [if_pos hc]]
   refine parse_from5 (llow (lcutA t 58)) (by have:=lcutA_len t 58;simp [llow];omega) (lcutB t 58) (by have:=lcutB_len t 58;omega) _ ⟨?_,?_,?_,?_,?_⟩<;>simp [urlCells,tx,num,LUrl.zero,bs,lcutB]
 · have hge:lfind t 58=t.length:=by have:=mt lfind_lt.1 hc;omega
   rw [show lparse t=(LUrl.zero,false) by unfold lparse;rw [if_neg hc]]
   simp [tx,num,bs_size,hge]
   refine parse_none _ ?_ ?_ ?_
   · simp
   · simp [urlCells,LUrl.zero,tx,num,bs]
   · simp
end Go.Proofs
end
section
namespace Go.Proofs
open Go.PW Go.KP
attribute [local simp] RV.cells RV.one PV.cells PV.solid PV.one vals? allVal mkAgg setAt RV.ofCells elems PV.killL
variable [GF]
structure TO (st:St) (x:LTarget) (u:LUrl):Prop where
 e1:st.env 1=.ptr 1 0
 e3:st.env 3=.ptr 3 0
 m1:st.mem 1=.box [.val (tx x.url),.val (num x.prio),.val (num x.weight)]
 m3:st.mem 3=.box (urlCells u)
section
variable {Ks:Kx (St→Prop)} {st:St} {x:LTarget} {u:LUrl} {b:Bool}
def tg35 (x:LTarget):Bool:=decide (1≤x.weight∧x.weight≤9)
theorem tops35 (h:TO st x u) (hb:st.env 34=.val (.bool b)) (hK:∀ st',TO st' x u→st'.env 38=.val (.bool (b && tg35 x))→Ks.k st'):EX Tryz.prog ir150_o35 st (Ks:=Ks):=by
 unfold ir150_o35
 cases b with
 | false=>
  simp [hb]
  refine hK _ ⟨?_,?_,?_,?_⟩ ?_<;>simp [h.e1,h.e3,h.m1,h.m3]
 | true=>
  simp [hb,h.e1,h.m1,num]
  refine callX_val rfl rfl (.inl rfl) (c_l01In .i64 x.weight 1 9) ?_
  simp [hb]
  refine hK _ ⟨?_,?_,?_,?_⟩ ?_<;>simp [h.e1,h.e3,h.m1,h.m3,tg35]
def tg30 (x:LTarget):Bool:=decide (1≤x.prio∧x.prio≤9) && tg35 x
theorem tops30 (h:TO st x u) (hb:st.env 29=.val (.bool b)) (hK:∀ st',TO st' x u→st'.env 38=.val (.bool (b && tg30 x))→Ks.k st'):EX Tryz.prog ir150_o30 st (Ks:=Ks):=by
 unfold ir150_o30
 cases b with
 | false=>
  simp [hb]
  refine tops35 (x:=x) (u:=u) (b:=false) ⟨?_,?_,?_,?_⟩ ?_ (fun st' q1 q2=>hK st' q1 (by simpa using q2))<;>simp [h.e1,h.e3,h.m1,h.m3]
 | true=>
  simp [hb,h.e1,h.m1,num]
  refine callX_val rfl rfl (.inl rfl) (c_l01In .i64 x.prio 1 9) ?_
  simp [hb]
  refine tops35 (x:=x) (u:=u) (b:=decide (1≤x.prio∧x.prio≤9)) ⟨?_,?_,?_,?_⟩ ?_ (fun st' q1 q2=>hK st' q1 (by rw [q2];simp [tg30]))<;>simp [h.e1,h.e3,h.m1,h.m3]
def tg23 (x:LTarget) (u:LUrl):Bool:=decide (ltext u=x.url) && tg30 x
theorem tops23 (hs:u.Small) (h:TO st x u) (hb:st.env 22=.val (.bool b)) (hK:∀ st',TO st' x u→st'.env 38=.val (.bool (b && tg23 x u))→Ks.k st'):EX Tryz.prog ir150_o23 st (Ks:=Ks):=by
 unfold ir150_o23
 cases b with
 | false=>
  simp [hb]
  refine tops30 (x:=x) (u:=u) (b:=false) ⟨?_,?_,?_,?_⟩ ?_ (fun st' q1 q2=>hK st' q1 (by simpa using q2))<;>simp [h.e1,h.e3,h.m1,h.m3]
 | true=>
  simp [hb,h.e1,h.m1,h.e3,h.m3,num,tx,urlCells,allVal]
  refine callX_val rfl rfl (.inl rfl) (c_l01Text u hs) ?_
  simp [hb,h.e1,h.m1,num,tx,bs_inj]
  refine tops30 (x:=x) (u:=u) (b:=decide (ltext u=x.url)) ⟨?_,?_,?_,?_⟩ ?_ (fun st' q1 q2=>hK st' q1 (by rw [q2];simp [tg23]))<;>simp [h.e1,h.e3,h.m1,h.m3]
def tg18 (x:LTarget) (u:LUrl):Bool:=!u.hasF && tg23 x u
theorem tops18 (hs:u.Small) (h:TO st x u) (hb:st.env 17=.val (.bool b)) (hK:∀ st',TO st' x u→st'.env 38=.val (.bool (b && tg18 x u))→Ks.k st'):EX Tryz.prog ir150_o18 st (Ks:=Ks):=by
 unfold ir150_o18
 cases b with
 | false=>
  simp [hb]
  refine tops23 (x:=x) (u:=u) (b:=false) hs ⟨?_,?_,?_,?_⟩ ?_ (fun st' q1 q2=>hK st' q1 (by simpa using q2))<;>simp [h.e1,h.e3,h.m1,h.m3]
 | true=>
  simp [hb,h.e1,h.m1,h.e3,h.m3,num,tx,urlCells,allVal]
  refine tops23 (x:=x) (u:=u) (b:=!u.hasF) hs ⟨?_,?_,?_,?_⟩ ?_ (fun st' q1 q2=>hK st' q1 (by rw [q2];simp [tg18]))<;>simp [h.e1,h.e3,h.m1,h.m3,urlCells,tx,num]
end
theorem c_l03Target (x:LTarget) (hx:x.url.length < 1099511627776):CallOK Tryz.prog 150 [.val (rvTarget x)] (.ret (.val (.bool (ltargetOK x))) []) []:=by
 refine call_val mixed ok150 rfl (fun _=>rfl) ?_
 unfold ir150
 rw [evalC_intro]
 have hs:=lparse_small hx
 simp [initSt,avPVs,avPV,avBoxesL,avBoxes,rvTarget,tx,num]
 have hp:=c_l01Parse x.url hx
 have e:ltargetOK x=(((lparse x.url).2 && lweb (lparse x.url).1.scheme) && tg18 x (lparse x.url).1):=by
  unfold ltargetOK tg18 tg23 tg30 tg35
  simp only [Bool.and_assoc]
 rw [e]
 generalize lparse x.url=r at *
 obtain ⟨u,ok⟩:=r
 dsimp only at *
 refine callS_two rfl rfl (.inl rfl) hp ?_
 simp [initSt,avPVs,avPV,avBoxesL,avBoxes,rvUrl,tx,num]
 cases ok with
 | false=>
  simp
  refine tops18 (x:=x) (u:=u) (b:=false) hs ⟨?_,?_,?_,?_⟩ ?_ (fun st' q1 q2=>?_)
  all_goals simp [urlCells,tx,num]
  simp [q2,evalC_skip,evalC_reg,evalC_draw,evalC_seq,evalC_cond,evalC_block,evalC_exit,evalC_ret,then_normal,then_exit,then_ret,then_pan,inBlock_normal,inBlock_ret,inBlock_pan,inBlock_exit,condS_bool,evalOps_nil,evalOps_cons,evalX_nil,evalX_cons,guardS_none,guardS_some,setD_some,setD_none,ev_t,ev_k,Option.getD_some,Option.getD_none,stepE_mov,stepE_pick,stepE_alloc,stepE_box,stepE_build,stepE_store,stepE_app,stepE_nilck,stepE_bin,stepE_eqb,stepE_eqs,stepE_un,stepE_conv,stepE_faddr,stepE_fld,stepE_load,stepE_iaddr,stepE_idx,stepE_slc,stepE_ext,stepE_lens,stepE_len,stepE_tostr,stepE_mkfn,stepE_ifc,stepE_mn,stepE_mx,stepE_mx4,stepE_mks,stepE_isnil,stepE_lit,stepE_call,stepE_callv,stepX_mov,stepX_nilck,stepX_bin,stepX_eqb,stepX_eqs,stepX_un,stepX_conv,stepX_faddr,stepX_fld,stepX_load,stepX_iaddr,stepX_idx,stepX_slc,stepX_ext,stepX_lens,stepX_len,stepX_tostr,stepX_mkfn,stepX_ifc,stepX_mn,stepX_mx,stepX_mx4,stepX_pick,stepX_build,stepX_lit,stepX_call,stepX_callv,binS_int,binS_str,binI_add,binI_sub,binI_mul,binI_quo,binI_rem,binI_eql,binI_neq,binI_lss,binI_leq,binI_gtr,binI_geq,binStr_add,binStr_eql,binStr_neq,unS_not,unS_neg,upd_app,envOf_nil,envOf_cons,memOf_nil,memOf_cons,RetP_ret,RetP_normal,resP_t,resP_tt,fin_env,frz_val,frz_emp,frz_own,pl_val,pl_emp,kill_val,kill_own,kill_ptr,kill_emp,kill_elt,kill_at,kill_undef,kill_fn,kill_skip,killM_row,killM_box,killM_dead,Kx_k,fillP_nil,fillP_cons,slc_lo,slc_hi,slc_lohi,slcl_lo,slcl_hi,Option.map_some,Option.map_none,iteP_true,iteP_false,onBool_val,onBool_skip,nilck_ptr,nilck_elt,nilck_at,nilck_fn,eqb_val,eqs_val,conv_val,faddr_ptr,faddr_elt,faddr_at,fld_val,fld_agg,load_ptr,loadBox_box,load_elt,loadRow_row,load_at,iaddr_lst,iaddr_own,iaddrRow_row,idx_val,ext_tup,lens_val,len_val,len_emp,len_own,lenRow_row,tostr_val,tostr_emp,tostr_own,tostrRow_row,ifc_val,mn_val,mx_val,mx4_val,lit_some,fn_fn,mks_val,isnil_nilif,isnil_ifc,isnil_emp,isnil_list,isnil_own,isnilRow_row,store_ptrK,storeBox_box,store_eltK,storeRow_row,add_some,app_own,app_emp,appRow_row,addOf_list,addOf_emp,addOf_own,rowOf_row]
 | true=>
  simp
  refine callX_val rfl rfl (.inl rfl) (c_l01Web u.scheme) ?_
  simp
  refine tops18 (x:=x) (u:=u) (b:=lweb u.scheme) hs ⟨?_,?_,?_,?_⟩ ?_ (fun st' q1 q2=>?_)
  all_goals simp [urlCells,tx,num]
  simp [q2,evalC_skip,evalC_reg,evalC_draw,evalC_seq,evalC_cond,evalC_block,evalC_exit,evalC_ret,then_normal,then_exit,then_ret,then_pan,inBlock_normal,inBlock_ret,inBlock_pan,inBlock_exit,condS_bool,evalOps_nil,evalOps_cons,evalX_nil,evalX_cons,guardS_none,guardS_some,setD_some,setD_none,ev_t,ev_k,Option.getD_some,Option.getD_none,stepE_mov,stepE_pick,stepE_alloc,stepE_box,stepE_build,stepE_store,stepE_app,stepE_nilck,stepE_bin,stepE_eqb,stepE_eqs,stepE_un,stepE_conv,stepE_faddr,stepE_fld,stepE_load,stepE_iaddr,stepE_idx,stepE_slc,stepE_ext,stepE_lens,stepE_len,stepE_tostr,stepE_mkfn,stepE_ifc,stepE_mn,stepE_mx,stepE_mx4,stepE_mks,stepE_isnil,stepE_lit,stepE_call,stepE_callv,stepX_mov,stepX_nilck,stepX_bin,stepX_eqb,stepX_eqs,stepX_un,stepX_conv,stepX_faddr,stepX_fld,stepX_load,stepX_iaddr,stepX_idx,stepX_slc,stepX_ext,stepX_lens,stepX_len,stepX_tostr,stepX_mkfn,stepX_ifc,stepX_mn,stepX_mx,stepX_mx4,stepX_pick,stepX_build,stepX_lit,stepX_call,stepX_callv,binS_int,binS_str,binI_add,binI_sub,binI_mul,binI_quo,binI_rem,binI_eql,binI_neq,binI_lss,binI_leq,binI_gtr,binI_geq,binStr_add,binStr_eql,binStr_neq,unS_not,unS_neg,upd_app,envOf_nil,envOf_cons,memOf_nil,memOf_cons,RetP_ret,RetP_normal,resP_t,resP_tt,fin_env,frz_val,frz_emp,frz_own,pl_val,pl_emp,kill_val,kill_own,kill_ptr,kill_emp,kill_elt,kill_at,kill_undef,kill_fn,kill_skip,killM_row,killM_box,killM_dead,Kx_k,fillP_nil,fillP_cons,slc_lo,slc_hi,slc_lohi,slcl_lo,slcl_hi,Option.map_some,Option.map_none,iteP_true,iteP_false,onBool_val,onBool_skip,nilck_ptr,nilck_elt,nilck_at,nilck_fn,eqb_val,eqs_val,conv_val,faddr_ptr,faddr_elt,faddr_at,fld_val,fld_agg,load_ptr,loadBox_box,load_elt,loadRow_row,load_at,iaddr_lst,iaddr_own,iaddrRow_row,idx_val,ext_tup,lens_val,len_val,len_emp,len_own,lenRow_row,tostr_val,tostr_emp,tostr_own,tostrRow_row,ifc_val,mn_val,mx_val,mx4_val,lit_some,fn_fn,mks_val,isnil_nilif,isnil_ifc,isnil_emp,isnil_list,isnil_own,isnilRow_row,store_ptrK,storeBox_box,store_eltK,storeRow_row,add_some,app_own,app_emp,appRow_row,addOf_list,addOf_emp,addOf_own,rowOf_row]
def peerCells (x:LPeer):List PV:=[.val (tx x.target.url),.val (num x.target.prio),.val (num x.target.weight),.val (num x.fails),.val (num x.retry),.val (.bool x.gone)]
structure PO (st:St) (l:List LPeer) (i:Nat) (x:LPeer):Prop where
 e0:st.env 0=.val (rvPeers l)
 e3:st.env 3=.val (num i)
 e4:st.env 4=.ptr 4 0
 m4:st.mem 4=.box (peerCells x)
section
variable {Ks:Kx (St→Prop)} {kx:Kx (RV→St→Prop)} {st:St} {l:List LPeer} {i:Nat} {x:LPeer} {b:Bool}
def pb36 (x:LPeer):Bool:=decide (x.fails=0) && !decide (x.retry=0)
theorem pops36 (h:PO st l i x) (hb:st.env 35=.val (.bool b)) (hK:∀ st',PO st' l i x→st'.env 44=.val (.bool (b || pb36 x))→Ks.k st'):EO Tryz.prog ir113_o36 st (Ks:=Ks) (kx:=kx):=by
 unfold ir113_o36
 cases b with
 | true=>
  simp [hb]
  refine hK _ ⟨?_,?_,?_,?_⟩ ?_<;>simp [h.e0,h.e3,h.e4,h.m4]
 | false=>
  by_cases h0:x.fails=0
  · by_cases h1:x.retry=0
    · simp [hb,h.e4,h.m4,peerCells,num,h0,h1]
      refine hK _ ⟨?_,?_,?_,?_⟩ ?_<;>simp [h.e0,h.e3,h.e4,h.m4,pb36,h0,h1]
    · simp [hb,h.e4,h.m4,peerCells,num,h0,h1]
      refine hK _ ⟨?_,?_,?_,?_⟩ ?_<;>simp [h.e0,h.e3,h.e4,h.m4,pb36,h0,h1]
  · simp [hb,h.e4,h.m4,peerCells,num,h0]
    refine hK _ ⟨?_,?_,?_,?_⟩ ?_<;>simp [h.e0,h.e3,h.e4,h.m4,pb36,h0]
def pb30 (x:LPeer):Bool:=!decide (0≤x.retry∧x.retry≤1000032) || pb36 x
theorem pops30 (h:PO st l i x) (hb:st.env 29=.val (.bool b)) (hK:∀ st',PO st' l i x→st'.env 44=.val (.bool (b || pb30 x))→Ks.k st'):EO Tryz.prog ir113_o30 st (Ks:=Ks) (kx:=kx):=by
 unfold ir113_o30
 cases b with
 | true=>
  simp [hb]
  refine pops36 (l:=l) (i:=i) (x:=x) (b:=true) ⟨?_,?_,?_,?_⟩ ?_ (fun st' q1 q2=>hK st' q1 (by simpa using q2))<;>simp [h.e0,h.e3,h.e4,h.m4]
 | false=>
  simp [hb,h.e4,h.m4,peerCells,num]
  refine callS_val rfl rfl (.inl rfl) (c_l01In .i64 x.retry 0 1000032) ?_
  simp [hb]
  refine pops36 (l:=l) (i:=i) (x:=x) (b:=!decide (0≤x.retry∧x.retry≤1000032)) ⟨?_,?_,?_,?_⟩ ?_ (fun st' q1 q2=>hK st' q1 (by rw [q2];simp [pb30]))<;>simp [h.e0,h.e3,h.e4,h.m4]
def pb24 (x:LPeer):Bool:=!decide (0≤x.fails∧x.fails≤1000000) || pb30 x
theorem pops24 (h:PO st l i x) (hb:st.env 23=.val (.bool b)) (hK:∀ st',PO st' l i x→st'.env 44=.val (.bool (b || pb24 x))→Ks.k st'):EO Tryz.prog ir113_o24 st (Ks:=Ks) (kx:=kx):=by
 unfold ir113_o24
 cases b with
 | true=>
  simp [hb]
  refine pops30 (l:=l) (i:=i) (x:=x) (b:=true) ⟨?_,?_,?_,?_⟩ ?_ (fun st' q1 q2=>hK st' q1 (by simpa using q2))<;>simp [h.e0,h.e3,h.e4,h.m4]
 | false=>
  simp [hb,h.e4,h.m4,peerCells,num]
  refine callS_val rfl rfl (.inl rfl) (c_l01In .i64 x.fails 0 1000000) ?_
  simp [hb]
  refine pops30 (l:=l) (i:=i) (x:=x) (b:=!decide (0≤x.fails∧x.fails≤1000000)) ⟨?_,?_,?_,?_⟩ ?_ (fun st' q1 q2=>hK st' q1 (by rw [q2];simp [pb24]))<;>simp [h.e0,h.e3,h.e4,h.m4]
end
theorem lpeerOK_eq (x:LPeer):lpeerOK x=!(!ltargetOK x.target || pb24 x):=by
 unfold lpeerOK pb24 pb30 pb36
 cases ltargetOK x.target<;>cases decide (0≤x.fails∧x.fails≤1000000)<;>cases decide (0≤x.retry∧x.retry≤1000032)<;>by_cases h:x.retry=0<;>simp [h]
theorem peers_at {l:List LPeer} {j:Nat} (h:j < l.length):((l.map rvPeer).getD j .nilptr)=rvPeer l[j]:=by
 rw [getD_lt _ _ _ (by simpa using h)];simp
theorem peers_inner {K:Kx (PExit→St→Prop)} {st:St} {l:List LPeer} {i:Nat} {x:LPeer} (hi:i < l.length) (hl:l.length < 1099511627776) (h:PO st l i x) (h5:st.env 5=.val (num 0))
 (hK:∀ st',PO st' l i x→x.target.url∉(l.take i).map (fun p=>p.target.url)→K.k .normal st') (hR:∀ st',st'.env 2=.val (.bool false)→x.target.url∈(l.take i).map (fun p=>p.target.url)→K.k .ret st') :
 EC Tryz.prog ir113_s45 st (K:=K):=by
 unfold ir113_s45
 simp only [evalC_skip,evalC_reg,evalC_draw,evalC_seq,evalC_cond,evalC_block,evalC_exit,evalC_ret,then_normal,then_exit,then_ret,then_pan,inBlock_normal,inBlock_ret,inBlock_pan,inBlock_exit,condS_bool,evalOps_nil,evalOps_cons,evalX_nil,evalX_cons,guardS_none,guardS_some,setD_some,setD_none,ev_t,ev_k,Option.getD_some,Option.getD_none,stepE_mov,stepE_pick,stepE_alloc,stepE_box,stepE_build,stepE_store,stepE_app,stepE_nilck,stepE_bin,stepE_eqb,stepE_eqs,stepE_un,stepE_conv,stepE_faddr,stepE_fld,stepE_load,stepE_iaddr,stepE_idx,stepE_slc,stepE_ext,stepE_lens,stepE_len,stepE_tostr,stepE_mkfn,stepE_ifc,stepE_mn,stepE_mx,stepE_mx4,stepE_mks,stepE_isnil,stepE_lit,stepE_call,stepE_callv,stepX_mov,stepX_nilck,stepX_bin,stepX_eqb,stepX_eqs,stepX_un,stepX_conv,stepX_faddr,stepX_fld,stepX_load,stepX_iaddr,stepX_idx,stepX_slc,stepX_ext,stepX_lens,stepX_len,stepX_tostr,stepX_mkfn,stepX_ifc,stepX_mn,stepX_mx,stepX_mx4,stepX_pick,stepX_build,stepX_lit,stepX_call,stepX_callv,binS_int,binS_str,binI_add,binI_sub,binI_mul,binI_quo,binI_rem,binI_eql,binI_neq,binI_lss,binI_leq,binI_gtr,binI_geq,binStr_add,binStr_eql,binStr_neq,unS_not,unS_neg,upd_app,envOf_nil,envOf_cons,memOf_nil,memOf_cons,RetP_ret,RetP_normal,resP_t,resP_tt,fin_env,frz_val,frz_emp,frz_own,pl_val,pl_emp,kill_val,kill_own,kill_ptr,kill_emp,kill_elt,kill_at,kill_undef,kill_fn,kill_skip,killM_row,killM_box,killM_dead,Kx_k,fillP_nil,fillP_cons,slc_lo,slc_hi,slc_lohi,slcl_lo,slcl_hi,Option.map_some,Option.map_none,iteP_true,iteP_false,onBool_val,onBool_skip,nilck_ptr,nilck_elt,nilck_at,nilck_fn,eqb_val,eqs_val,conv_val,faddr_ptr,faddr_elt,faddr_at,fld_val,fld_agg,load_ptr,loadBox_box,load_elt,loadRow_row,load_at,iaddr_lst,iaddr_own,iaddrRow_row,idx_val,ext_tup,lens_val,len_val,len_emp,len_own,lenRow_row,tostr_val,tostr_emp,tostr_own,tostrRow_row,ifc_val,mn_val,mx_val,mx4_val,lit_some,fn_fn,mks_val,isnil_nilif,isnil_ifc,isnil_emp,isnil_list,isnil_own,isnilRow_row,store_ptrK,storeBox_box,store_eltK,storeRow_row,add_some,app_own,app_emp,appRow_row,addOf_list,addOf_emp,addOf_own,rowOf_row]
 refine loop_EC (X:=Nat) (fun j=>⟨envOf [(0,.val (rvPeers l)),(3,.val (num i)),(4,.ptr 4 0),(5,.val (num j))],memOf [(4,.box (peerCells x))]⟩) (fun j=>j≤i∧∀ k (hk:k < j) (hk':k < l.length),l[k].target.url≠x.target.url) (fun j=>i - j) 0 (Le.mk _ _ ?_ ?_) ?_ ?_
 · simp [h.e0,h.e3,h.e4,h5]
 · simp [h.m4]
 · simp
 · rintro j ⟨hj,hne⟩
   unfold ir113_l45
   simp [num,rvPeers,peerCells]
   refine iteP_intro (fun h1=>?_) (fun h1=>?_)
   · have hjl:j < l.length:=by omega
     have e:=peers_at hjl
     rw [List.getD_eq_getElem?_getD] at e
     simp [num,rvPeers,peerCells,e,h1,hjl,rvPeer,tx,bs_inj]
     by_cases hu:l[j].target.url=x.target.url
     · refine iteP_intro (fun _=>?_) (fun h=>absurd hu h)
       simp
       refine hR _ (by simp) ?_
       rw [List.mem_map]
       exact ⟨l[j],by rw [List.mem_take_iff_getElem];exact ⟨j,by omega,rfl⟩,hu⟩
     · refine iteP_intro (fun h=>absurd h hu) (fun _=>?_)
       simp
       refine LoopNext.mk (j+1) ⟨by omega,fun k hk hk'=>?_⟩ (by omega) (Le.mk _ _ ?_ ?_)
       · by_cases e:k=j
         · subst e;exact hu
         · exact hne k (by omega) hk'
       · simp [num,rvPeers];rw [wrap_i64 (by omega) (by omega)]
       · simp [peerCells,num,tx]
   · have e:j=i:=by omega
     simp
     refine hK _ ⟨?_,?_,?_,?_⟩ ?_
     · simp [rvPeers]
     · simp [num]
     · simp
     · simp [peerCells,num]
     · intro hm
       rw [List.mem_map] at hm
       obtain ⟨p,hp,hpu⟩:=hm
       rw [List.mem_take_iff_getElem] at hp
       obtain ⟨k,hk,rfl⟩:=hp
       exact hne k (by omega) (by omega) hpu
theorem c_l07OK (l:List LPeer) (hl:l.length < 1099511627776) (hs:∀ p∈l,p.target.url.length < 1099511627776):CallOK Tryz.prog 113 [.val (rvPeers l)] (.ret (.val (.bool (lpeersOK l))) []) []:=by
 refine call_val mixed ok113 rfl (fun _=>rfl) ?_
 unfold ir113
 rw [evalC_intro]
 by_cases h4:4 < l.length
 · have h4':(4:Int) < l.length:=by omega
   have e:lpeersOK l=false:=by
    unfold lpeersOK
    rw [decide_eq_false (by omega)];rfl
   simp [initSt,avPVs,avPV,avBoxesL,avBoxes,rvPeers,h4',e]
 · have h4':¬ (4:Int) < l.length:=by omega
   have e:lpeersOK l=(l.all lpeerOK && lunlike [] l):=by
    unfold lpeersOK
    rw [decide_eq_true (by omega)];rfl
   rw [e]
   simp [initSt,avPVs,avPV,avBoxesL,avBoxes,rvPeers,h4']
   refine loop_EC (X:=Nat) (fun i=>⟨envOf [(0,.val (rvPeers l)),(3,.val (num i))],memOf []⟩) (fun i=>i≤l.length∧(l.take i).all lpeerOK=true∧lunlike [] (l.take i)=true) (fun i=>l.length - i) 0 (Le.mk _ _ ?_ ?_) ?_ ?_
   · simp [upd,rvPeers,num]
   · simp
   · simp [lunlike]
   · rintro i ⟨hi,ha,hu⟩
     unfold ir113_l9
     simp [num,rvPeers]
     refine iteP_intro (fun h1=>?_) (fun h1=>?_)
     · have e1:=peers_at h1
       rw [List.getD_eq_getElem?_getD] at e1
       simp [num,rvPeers,h1,e1,rvPeer,tx]
       unfold ir113_s19
       simp [num,rvPeers,allVal,tx]
       refine callS_val rfl rfl (.inl rfl) (c_l03Target l[i].target (hs _ (List.getElem_mem h1))) ?_
       simp
       refine pops24 (l:=l) (i:=i) (x:=l[i]) (b:=!ltargetOK l[i].target) ⟨?_,?_,?_,?_⟩ ?_ (fun st' q1 q2=>?_)
       · simp [rvPeers]
       · simp [num]
       · simp
       · simp [peerCells,num,tx]
       · simp
       · have hpk:=lpeerOK_eq l[i]
         simp only [evalC_skip,evalC_reg,evalC_draw,evalC_seq,evalC_cond,evalC_block,evalC_exit,evalC_ret,then_normal,then_exit,then_ret,then_pan,inBlock_normal,inBlock_ret,inBlock_pan,inBlock_exit,condS_bool,evalOps_nil,evalOps_cons,evalX_nil,evalX_cons,guardS_none,guardS_some,setD_some,setD_none,ev_t,ev_k,Option.getD_some,Option.getD_none,stepE_mov,stepE_pick,stepE_alloc,stepE_box,stepE_build,stepE_store,stepE_app,stepE_nilck,stepE_bin,stepE_eqb,stepE_eqs,stepE_un,stepE_conv,stepE_faddr,stepE_fld,stepE_load,stepE_iaddr,stepE_idx,stepE_slc,stepE_ext,stepE_lens,stepE_len,stepE_tostr,stepE_mkfn,stepE_ifc,stepE_mn,stepE_mx,stepE_mx4,stepE_mks,stepE_isnil,stepE_lit,stepE_call,stepE_callv,stepX_mov,stepX_nilck,stepX_bin,stepX_eqb,stepX_eqs,stepX_un,stepX_conv,stepX_faddr,stepX_fld,stepX_load,stepX_iaddr,stepX_idx,stepX_slc,stepX_ext,stepX_lens,stepX_len,stepX_tostr,stepX_mkfn,stepX_ifc,stepX_mn,stepX_mx,stepX_mx4,stepX_pick,stepX_build,stepX_lit,stepX_call,stepX_callv,binS_int,binS_str,binI_add,binI_sub,binI_mul,binI_quo,binI_rem,binI_eql,binI_neq,binI_lss,binI_leq,binI_gtr,binI_geq,binStr_add,binStr_eql,binStr_neq,unS_not,unS_neg,upd_app,envOf_nil,envOf_cons,memOf_nil,memOf_cons,RetP_ret,RetP_normal,resP_t,resP_tt,fin_env,frz_val,frz_emp,frz_own,pl_val,pl_emp,kill_val,kill_own,kill_ptr,kill_emp,kill_elt,kill_at,kill_undef,kill_fn,kill_skip,killM_row,killM_box,killM_dead,Kx_k,fillP_nil,fillP_cons,slc_lo,slc_hi,slc_lohi,slcl_lo,slcl_hi,Option.map_some,Option.map_none,iteP_true,iteP_false,onBool_val,onBool_skip,nilck_ptr,nilck_elt,nilck_at,nilck_fn,eqb_val,eqs_val,conv_val,faddr_ptr,faddr_elt,faddr_at,fld_val,fld_agg,load_ptr,loadBox_box,load_elt,loadRow_row,load_at,iaddr_lst,iaddr_own,iaddrRow_row,idx_val,ext_tup,lens_val,len_val,len_emp,len_own,lenRow_row,tostr_val,tostr_emp,tostr_own,tostrRow_row,ifc_val,mn_val,mx_val,mx4_val,lit_some,fn_fn,mks_val,isnil_nilif,isnil_ifc,isnil_emp,isnil_list,isnil_own,isnilRow_row,store_ptrK,storeBox_box,store_eltK,storeRow_row,add_some,app_own,app_emp,appRow_row,addOf_list,addOf_emp,addOf_own,rowOf_row,q2]
         cases hb:(!ltargetOK l[i].target || pb24 l[i]) with
         | true=>
          rw [hb] at hpk
          have:l.all lpeerOK=false:=by rw [List.all_eq_false];exact ⟨l[i],List.getElem_mem h1,by rw [hpk];simp⟩
          rw [this]
          simp
         | false=>
          rw [hb] at hpk
          refine iteP_intro (fun h=>by cases h) (fun _=>?_)
          simp only [evalC_skip,evalC_reg,evalC_draw,evalC_seq,evalC_cond,evalC_block,evalC_exit,evalC_ret,then_normal,then_exit,then_ret,then_pan,inBlock_normal,inBlock_ret,inBlock_pan,inBlock_exit,condS_bool,evalOps_nil,evalOps_cons,evalX_nil,evalX_cons,guardS_none,guardS_some,setD_some,setD_none,ev_t,ev_k,Option.getD_some,Option.getD_none,stepE_mov,stepE_pick,stepE_alloc,stepE_box,stepE_build,stepE_store,stepE_app,stepE_nilck,stepE_bin,stepE_eqb,stepE_eqs,stepE_un,stepE_conv,stepE_faddr,stepE_fld,stepE_load,stepE_iaddr,stepE_idx,stepE_slc,stepE_ext,stepE_lens,stepE_len,stepE_tostr,stepE_mkfn,stepE_ifc,stepE_mn,stepE_mx,stepE_mx4,stepE_mks,stepE_isnil,stepE_lit,stepE_call,stepE_callv,stepX_mov,stepX_nilck,stepX_bin,stepX_eqb,stepX_eqs,stepX_un,stepX_conv,stepX_faddr,stepX_fld,stepX_load,stepX_iaddr,stepX_idx,stepX_slc,stepX_ext,stepX_lens,stepX_len,stepX_tostr,stepX_mkfn,stepX_ifc,stepX_mn,stepX_mx,stepX_mx4,stepX_pick,stepX_build,stepX_lit,stepX_call,stepX_callv,binS_int,binS_str,binI_add,binI_sub,binI_mul,binI_quo,binI_rem,binI_eql,binI_neq,binI_lss,binI_leq,binI_gtr,binI_geq,binStr_add,binStr_eql,binStr_neq,unS_not,unS_neg,upd_app,envOf_nil,envOf_cons,memOf_nil,memOf_cons,RetP_ret,RetP_normal,resP_t,resP_tt,fin_env,frz_val,frz_emp,frz_own,pl_val,pl_emp,kill_val,kill_own,kill_ptr,kill_emp,kill_elt,kill_at,kill_undef,kill_fn,kill_skip,killM_row,killM_box,killM_dead,Kx_k,fillP_nil,fillP_cons,slc_lo,slc_hi,slc_lohi,slcl_lo,slcl_hi,Option.map_some,Option.map_none,iteP_true,iteP_false,onBool_val,onBool_skip,nilck_ptr,nilck_elt,nilck_at,nilck_fn,eqb_val,eqs_val,conv_val,faddr_ptr,faddr_elt,faddr_at,fld_val,fld_agg,load_ptr,loadBox_box,load_elt,loadRow_row,load_at,iaddr_lst,iaddr_own,iaddrRow_row,idx_val,ext_tup,lens_val,len_val,len_emp,len_own,lenRow_row,tostr_val,tostr_emp,tostr_own,tostrRow_row,ifc_val,mn_val,mx_val,mx4_val,lit_some,fn_fn,mks_val,isnil_nilif,isnil_ifc,isnil_emp,isnil_list,isnil_own,isnilRow_row,store_ptrK,storeBox_box,store_eltK,storeRow_row,add_some,app_own,app_emp,appRow_row,addOf_list,addOf_emp,addOf_own,rowOf_row]
          refine peers_inner (x:=l[i]) h1 hl ⟨?_,?_,?_,?_⟩ ?_ (fun st'' r1 r2=>?_) (fun st'' r1 r2=>?_)
          · simp [q1.e0]
          · simp [q1.e3]
          · simp [q1.e4]
          · simp [q1.m4]
          · simp [num]
          · simp [r1.e3,num]
            refine LoopNext.mk (i+1) ⟨by omega,?_,?_⟩ (by omega) (Le.mk _ _ ?_ ?_)
            · rw [all_take_succ _ _ _ h1,ha,hpk];rfl
            · rw [lunlike_take l i h1,hu,decide_eq_true r2];rfl
            · simp [r1.e0,num,rvPeers];rw [wrap_i64 (by omega) (by omega)]
            · simp
          · have:lunlike [] l=false:=lunlike_false_of_take l (i+1) (by rw [lunlike_take l i h1,hu,decide_eq_false (fun h=>h r2)];rfl)
            rw [this]
            simp [r1]
     · have e1:i=l.length:=by omega
       subst e1
       rw [List.take_length] at ha hu
       rw [ha,hu]
       simp
end Go.Proofs
end
section
namespace Go.Proofs
open Go.PW Go.KP
variable [GF]
theorem c_l00Letter (c:UInt8):CallOK Tryz.prog 153 [.val (rvb c)] (.ret (.val (.bool (isLet c))) []) []:=by
 refine call_val mixed ok153 rfl (fun _=>rfl) ?_
 unfold ir153
 rw [evalC_intro]
 have e1:((97:Int)≤c.toNat)↔97≤c.toNat:=by omega
 have e2:((c.toNat:Int)≤122)↔c.toNat≤122:=by omega
 have e3:((65:Int)≤c.toNat)↔65≤c.toNat:=by omega
 have e4:((c.toNat:Int)≤90)↔c.toNat≤90:=by omega
 have e5:((c.toNat:Int)=95)↔c.toNat=95:=by omega
 by_cases h1:97≤c.toNat<;>by_cases h2:c.toNat≤122<;>by_cases h3:65≤c.toNat<;>by_cases h4:c.toNat≤90<;>by_cases h5:c.toNat=95<;>first | (exfalso;omega) | simp [initSt,avPVs,avPV,avBoxesL,avBoxes,rvb,isLet,isLow,isUp,e1,e2,e3,e4,e5,h1,h2,h3,h4,h5]
theorem isLet_isWrd {c:UInt8} (h:isLet c=true):isWrd c=true:=by simp [isWrd,h]
theorem c_l00Word (t:Tx) (ht:t.length < 1099511627776):CallOK Tryz.prog 115 [.val (tx t)] (.ret (.val (.bool (lword t))) []) []:=by
 refine call_val mixed ok115 rfl (fun _=>rfl) ?_
 unfold ir115
 rw [evalC_intro]
 by_cases h1:t.length < 1
 · have:lword t=false:=by unfold lword;rw [decide_eq_false (by omega)];rfl
   have h1':(t.length:Int) < 1:=by omega
   simp [initSt,avPVs,avPV,avBoxesL,avBoxes,tx,bs_size,h1',this]
 by_cases h2:12 < t.length
 · have h1':¬ (t.length:Int) < 1:=by omega
   have h2':(12:Int) < t.length:=by omega
   have:lword t=false:=by unfold lword;rw [decide_eq_false (by omega)];rfl
   simp [initSt,avPVs,avPV,avBoxesL,avBoxes,tx,bs_size,h1',h2',this]
 have h1':¬ (t.length:Int) < 1:=by omega
 have h2':¬ (12:Int) < t.length:=by omega
 have h0:0 < t.length:=by omega
 have hw:lword t=headAll isLet isWrd t:=by unfold lword;rw [decide_eq_true (by omega)];rfl
 simp [initSt,avPVs,avPV,avBoxesL,avBoxes,tx,bs_size,h1',h2',byteAt_bs,h0]
 refine callS_val rfl rfl (.inl rfl) (c_l00Letter t[0]) ?_
 cases hl:isLet t[0] with
 | false=>
  have:lword t=false:=by rw [hw];exact headAll_false t 0 h0 (by rw [if_pos rfl];exact hl)
  simp [this]
 | true=>
  have hst:=headAll_succ (p:=isLet) (q:=isWrd) (fun _ h=>isLet_isWrd h) t 0 h0
  simp
  refine loop_EC (X:=Nat) (fun i=>⟨envOf [(0,.val (.str (bs t))),(3,.val (.int .i64 i))],memOf []⟩) (fun i=>1≤i∧i≤t.length∧headAll isLet isWrd (t.take i)=true) (fun i=>t.length - i) 1 (Le.mk _ _ ?_ ?_) ?_ ?_
  · simp [upd]
  · simp
  · refine ⟨Nat.le_refl _,h0,?_⟩
    rw [hst,if_pos rfl,hl];simp [headAll]
  · rintro i ⟨hi1,hi,hall⟩
    have hi0:i≠0:=by omega
    simp [bs_size,byteAt_bs]
    refine iteP_intro (fun h3=>?_) (fun h3=>?_)
    · have hstep:=headAll_succ (p:=isLet) (q:=isWrd) (fun _ h=>isLet_isWrd h) t i h3
      rw [hall,Bool.true_and,if_neg hi0] at hstep
      have hbad:=headAll_false (p:=isLet) (q:=isWrd) t i h3
      rw [if_neg hi0] at hbad
      simp [bs_size,byteAt_bs,h3]
      refine callS_val rfl rfl (.inl rfl) (c_l00Letter t[i]) ?_
      cases hlt:isLet t[i] with
      | true=>
       simp
       refine LoopNext.mk (i+1) ⟨by omega,by omega,by rw [hstep];exact isLet_isWrd hlt⟩ (by omega) (Le.mk _ _ ?_ ?_)
       · simp;exact wrap_i64 (by omega) (by omega)
       · simp
      | false=>
       simp [bs_size,byteAt_bs,h3]
       refine callS_val rfl rfl (.inl rfl) (c_l00Digit t[i]) ?_
       cases hd:isDig t[i] with
       | true=>
        simp
        refine LoopNext.mk (i+1) ⟨by omega,by omega,by rw [hstep];simp [isWrd,hd]⟩ (by omega) (Le.mk _ _ ?_ ?_)
        · simp;exact wrap_i64 (by omega) (by omega)
        · simp
       | false=>
        have:lword t=false:=by rw [hw];exact hbad (by simp [isWrd,hd,hlt])
        simp [this]
    · have e:i=t.length:=by omega
      subst e
      rw [List.take_length] at hall
      simp [hw,hall]
end Go.Proofs
end
