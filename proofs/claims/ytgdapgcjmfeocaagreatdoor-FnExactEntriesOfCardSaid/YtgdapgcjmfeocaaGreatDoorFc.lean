/- Fc: merged out of KXm, KXa, KXh. -/
import Derived.Test.YtgdapgcjmfeocaaGreatDoorPWw
import Derived.Test.YtgdapgcjmfeocaaGreatDoorCa
import Derived.Test.YtgdapgcjmfeocaaGreatDoorAc
import Derived.Test.YtgdapgcjmfeocaaGreatDoorBa
import Derived.Test.YtgdapgcjmfeocaaGreatDoorCc
import Derived.Test.YtgdapgcjmfeocaaGreatDoorPWae
set_option linter.unusedSectionVars false
set_option linter.unusedSimpArgs false
set_option linter.unusedVariables false
set_option maxRecDepth 100000
section
namespace Go.Proofs
open Go.PW Go.KP
attribute [local simp] RV.cells RV.one PV.cells PV.solid PV.one vals? allVal mkAgg setAt RV.ofCells elems PV.killL
variable [GF]
theorem c_markText (k:Nat) (hk:k < 1099511627776):CallOK Tryz.prog 94 [.val (num k)] (.ret (.val (tx (lmk k))) []) []:=by
 refine call_val mixed ok94 rfl (fun _=>rfl) ?_
 unfold ir94
 rw [evalC_intro]
 unfold lmk
 by_cases h0:k=0
 · subst h0
   simp [initSt,avPVs,avPV,avBoxesL,avBoxes,num,tx,bs]
 · have h0':¬ (k:Int)≤0:=by omega
   rw [if_neg h0]
   simp [initSt,avPVs,avPV,avBoxesL,avBoxes,num,h0',h0]
   refine loop_EC (X:=Nat×Tx) (fun x=>⟨envOf [(0,.val (num x.1)),(3,.val (tx x.2))],memOf []⟩) (fun x=>x.1≤k∧x.2.length+x.1≤k∧lmkF x.1 x.2=lmkF k []) (fun x=>x.1) (k,[]) (Le.mk _ _ ?_ ?_) ⟨Nat.le_refl _,by simp,rfl⟩ ?_
   · simp [upd,num,tx,bs]
   · simp
   · rintro ⟨m,out⟩ ⟨hm,hlen,hF⟩
     simp only at hm hlen hF
     by_cases hz:m=0
     · subst hz
       rw [lmkF_zero] at hF
       subst hF
       have hlk:1+(lmkF k []).length≤9223372036854775807:=by omega
       simp [num,tx,bs_mk,bs_append,bs_size,hlk]
     · have hp:(0:Int) < (m:Int):=by omega
       have hp2:0 < m:=by omega
       rw [lmkF_pos hz] at hF
       have g6:(m:Int).tdiv 10=((m / 10:Nat):Int):=by rw [Int.tdiv_eq_ediv_of_nonneg (by omega)];omega
       have g7:(m:Int).tmod 10=((m % 10:Nat):Int):=by rw [Int.tmod_eq_emod_of_nonneg (by omega)];omega
       have ha:m / 10 < m:=Nat.div_lt_self (by omega) (by omega)
       have hb:m % 10 < 10:=Nat.mod_lt _ (by omega)
       have hl10:(UInt8.ofNat (48+m % 10) :: out).length+m / 10≤k:=by simp only [List.length_cons];omega
       have g8:IntKind.i64.wrap ((m / 10:Nat):Int)=((m / 10:Nat):Int):=wrap_i64 (by omega) (by omega)
       have g4:IntKind.i64.wrap (48+((m % 10:Nat):Int))=48+((m % 10:Nat):Int):=wrap_i64 (by omega) (by omega)
       have g5:IntKind.u8.wrap (48+((m % 10:Nat):Int))=48+((m % 10:Nat):Int):=wrap_u8 (by omega) (by omega)
       have g9:=byte1 (m % 10)
       generalize m / 10=a at *
       generalize m % 10=b at *
       have hsz:1+out.length≤9223372036854775807:=by simp only [List.length_cons] at hl10;omega
       simp [initSt,avPVs,avPV,avBoxesL,avBoxes,num,tx,hp,hp2,hz,g6,g7,g8,g4,g5,RV.isU8,g9,bs_size,bs_append]
       refine ⟨hsz,LoopNext.mk (a,UInt8.ofNat (48+b) :: out) ⟨by omega,hl10,hF⟩ ha (Le.mk _ _ ?_ ?_)⟩
       · simp [num,tx]
       · simp
end Go.Proofs
end
section
namespace Go.Proofs
open Go.PW Go.KP
attribute [local simp] RV.cells RV.one PV.cells PV.solid PV.one vals? allVal mkAgg setAt RV.ofCells elems PV.killL
variable [GF]
theorem g_toStringS_own2 (l:List Tx) (hx:bdS 1048576 (fun t=>t.length≤1048576) l):CallOK Tryz.prog 76 [.val (.list 1 (l.map tx))] (.ret (.own 0) [⟨9,1,l.map tx⟩]) []:=by
 refine call_mk (mk:=fun i=>.own i) mixed ok76 rfl (fun _=>rfl) ?_
 unfold ir76
 rw [evalC_intro]
 have hl:l.length≤1048576:=hx.1
 simp [initSt,avPVs,avPV,avBoxesL,avBoxes,num,vals?]
 refine ⟨by omega,by omega,?_⟩
 refine loop_EC (X:=Nat) (fun i=>⟨envOf [(0,.val (.list 1 (l.map tx))),(3,.own 7),(4,.val (num i))],memOf [(7,.row 9 1 (upTo tx (.str (bs [])) l i))]⟩) (fun i=>i≤l.length) (fun i=>l.length - i) 0 (Le.mk _ _ ?_ ?_) ?_ ?_
 · simp [upd,num,PV.kill]
 · simp [upd,num,bs,upTo_zero]
 · simp
 · intro i hi
   have hlen:=upTo_len tx (.str (bs [])) l i hi
   simp [num,vals?]
   refine iteP_intro (fun h1=>?_) (fun h1=>?_)
   · have e1:(l.map tx)[i]?.getD .nilptr=tx l[i]:=by simp [List.getElem?_eq_getElem h1]
     have e2:=upTo_at tx (.str (bs [])) l i h1
     have e3:=upTo_set tx (.str (bs [])) l i h1
     have e4:(upTo tx (.str (bs [])) l i)[i]'(by omega)=(.str (bs [])):=by
      have h9:=e2
      rw [List.getElem?_eq_getElem (show i < (upTo tx (.str (bs [])) l i).length by omega)] at h9
      exact h9
     simp [num,h1,e1,tx,hlen,vals?]
     refine LoopNext.mk (i+1) (by omega) (by omega) (Le.mk _ _ ?_ ?_)
     · simp [num];exact wrap_i64 (by omega) (by omega)
     · rw [← e3]
       simp [num,tx,e4]
   · have e1:i=l.length:=by omega
     subst e1
     simp [num,upTo_all,frzOf,PV.pl]
theorem markq_str {K:Kx (PExit→St→Prop)} (xs:List RV) (k i:Nat) (a0:ByteArray) (hi:i < xs.length) (hk:k < 549755813888) (hl:xs.length < 1099511627776) (hx:xs[i]?.getD .nilptr=.str a0)
 (hn:∀ st':St,st'.env 0=.own 900→st'.env 1=.val (num ((k+1:Nat):Int))→st'.env 5=.val (num ((i+1:Nat):Int))→st'.mem 900=.row 9 1 (xs.set i (tx (lmk k)))→K.k .normal st') :
 EC Tryz.prog ir98_l6 ⟨envOf [(0,.own 900),(1,.val (num k)),(5,.val (num i))],memOf [(900,.row 9 1 xs)]⟩ (K:=K):=by
 unfold ir98_l6
 have s1:IntKind.i64.wrap ((k:Int)+1)=(k:Int)+1:=wrap_i64 (by omega) (by omega)
 have hmk0:CallOK Tryz.prog 94 [.val (.int .i64 ((k:Int)))] (.ret (.val (.str (bs (lmk (k+0))))) []) []:=by
  have h:=c_markText (k+0) (by omega)
  exact h
 have si:IntKind.i64.wrap ((i:Int)+1)=(i:Int)+1:=wrap_i64 (by omega) (by omega)
 have hx':xs[i]=.str a0:=by rw [← hx];simp [List.getElem?_eq_getElem hi]
 simp [num,hi]
 refine callS_val rfl rfl (.inl rfl) hmk0 ?_
 simp [num,hi,hx,tx,s1]
 refine hn _ ?_ ?_ ?_ ?_
 · simp
 · simp only [evalC_skip,evalC_reg,evalC_draw,evalC_seq,evalC_cond,evalC_block,evalC_exit,evalC_ret,then_normal,then_exit,then_ret,then_pan,inBlock_normal,inBlock_ret,inBlock_pan,inBlock_exit,condS_bool,evalOps_nil,evalOps_cons,evalX_nil,evalX_cons,guardS_none,guardS_some,setD_some,setD_none,ev_t,ev_k,Option.getD_some,Option.getD_none,stepE_mov,stepE_pick,stepE_alloc,stepE_box,stepE_build,stepE_store,stepE_app,stepE_nilck,stepE_bin,stepE_eqb,stepE_eqs,stepE_un,stepE_conv,stepE_faddr,stepE_fld,stepE_load,stepE_iaddr,stepE_idx,stepE_slc,stepE_ext,stepE_lens,stepE_len,stepE_tostr,stepE_mkfn,stepE_ifc,stepE_mn,stepE_mx,stepE_mx4,stepE_mks,stepE_isnil,stepE_lit,stepE_call,stepE_callv,stepX_mov,stepX_nilck,stepX_bin,stepX_eqb,stepX_eqs,stepX_un,stepX_conv,stepX_faddr,stepX_fld,stepX_load,stepX_iaddr,stepX_idx,stepX_slc,stepX_ext,stepX_lens,stepX_len,stepX_tostr,stepX_mkfn,stepX_ifc,stepX_mn,stepX_mx,stepX_mx4,stepX_pick,stepX_build,stepX_lit,stepX_call,stepX_callv,binS_int,binS_str,binI_add,binI_sub,binI_mul,binI_quo,binI_rem,binI_eql,binI_neq,binI_lss,binI_leq,binI_gtr,binI_geq,binStr_add,binStr_eql,binStr_neq,unS_not,unS_neg,upd_app,envOf_nil,envOf_cons,memOf_nil,memOf_cons,RetP_ret,RetP_normal,resP_t,resP_tt,fin_env,frz_val,frz_emp,frz_own,pl_val,pl_emp,kill_val,kill_own,kill_ptr,kill_emp,kill_elt,kill_at,kill_undef,kill_fn,kill_skip,killM_row,killM_box,killM_dead,Kx_k,fillP_nil,fillP_cons,slc_lo,slc_hi,slc_lohi,slcl_lo,slcl_hi,Option.map_some,Option.map_none,iteP_true,iteP_false,onBool_val,onBool_skip,nilck_ptr,nilck_elt,nilck_at,nilck_fn,eqb_val,eqs_val,conv_val,faddr_ptr,faddr_elt,faddr_at,fld_val,fld_agg,load_ptr,loadBox_box,load_elt,loadRow_row,load_at,iaddr_lst,iaddr_own,iaddrRow_row,idx_val,ext_tup,lens_val,len_val,len_emp,len_own,lenRow_row,tostr_val,tostr_emp,tostr_own,tostrRow_row,ifc_val,mn_val,mx_val,mx4_val,lit_some,fn_fn,mks_val,isnil_nilif,isnil_ifc,isnil_emp,isnil_list,isnil_own,isnilRow_row,store_ptrK,storeBox_box,store_eltK,storeRow_row,add_some,app_own,app_emp,appRow_row,addOf_list,addOf_emp,addOf_own,rowOf_row,upd_app,s1,num]
   simp
   try omega
 · simp [num,si]
 · simp [hi,hx,hx']
   try simp [s1,num,tx]
theorem h_markStringS (l:List Tx) (k:Nat) (hk:k < 8388608) (hl:l.length≤1048576):CallRow Tryz.prog 98 (.own 0) 9 1 (l.map tx) [.val (num k)] (num ((k+1*l.length:Nat):Int)) ((mkL lmk 1 l.length k).map tx):=by
 refine callrow_ok mixed ok98 rfl ?_
 unfold ir98
 rw [evalC_intro]
 simp [initSt,avPVs,avPV,avBoxesL,avBoxes,initRow,PV.nm,num]
 refine loop_EC (X:=Nat) (fun i=>⟨envOf [(0,.own 900),(1,.val (num ((k+1*i:Nat):Int))),(5,.val (num i))],memOf [(900,.row 9 1 ((mkU lmk 1 l k i).map tx))]⟩) (fun i=>i≤l.length) (fun i=>l.length - i) 0 (Le.mk _ _ ?_ ?_) (Nat.zero_le _) ?_
 · simp [upd,num,PV.kill]
 · simp [mkU_zero]
 · intro i hi
   have hml:=mkU_len lmk 1 l k i hi
   by_cases h1:i < l.length
   · have hmi:i < (mkU lmk 1 l k i).length:=by omega
     have hset:=mkU_set lmk 1 l k i h1
     refine markq_str ((mkU lmk 1 l k i).map tx) (k+1*i) i (bs (mkU lmk 1 l k i)[i]) (by simpa using hmi) (by omega) (by simp;omega) (by simp [List.getElem?_eq_getElem hmi,tx]) (fun st' q0 q1 q5 qm=>?_)
     simp
     refine LoopNext.mk (i+1) h1 (by omega) (Le.mk _ _ ?_ ?_)
     · simp [q0,q1,q5,num]
       omega
     · rw [← List.map_set,hset] at qm
       simp [qm]
   · have e:i=l.length:=by omega
     subst e
     unfold ir98_l6
     simp [num,hml,mkU_all,mkL_len]
theorem g_toIntS_own2 (l:List Int) (hx:l.length≤1048576):CallOK Tryz.prog 120 [.val (.list 1 (l.map num))] (.ret (.own 0) [⟨3,1,l.map num⟩]) []:=by
 refine call_mk (mk:=fun i=>.own i) mixed ok120 rfl (fun _=>rfl) ?_
 unfold ir120
 rw [evalC_intro]
 have hl:l.length≤1048576:=hx
 simp [initSt,avPVs,avPV,avBoxesL,avBoxes,num,vals?]
 refine ⟨by omega,by omega,?_⟩
 refine loop_EC (X:=Nat) (fun i=>⟨envOf [(0,.val (.list 1 (l.map num))),(3,.own 7),(4,.val (num i))],memOf [(7,.row 3 1 (upTo num (.int .i64 0) l i))]⟩) (fun i=>i≤l.length) (fun i=>l.length - i) 0 (Le.mk _ _ ?_ ?_) ?_ ?_
 · simp [upd,num,PV.kill]
 · simp [upd,num,bs,upTo_zero]
 · simp
 · intro i hi
   have hlen:=upTo_len num (.int .i64 0) l i hi
   simp [num,vals?]
   refine iteP_intro (fun h1=>?_) (fun h1=>?_)
   · have e1:(l.map num)[i]?.getD .nilptr=num l[i]:=by simp [List.getElem?_eq_getElem h1]
     have e2:=upTo_at num (.int .i64 0) l i h1
     have e3:=upTo_set num (.int .i64 0) l i h1
     have e4:(upTo num (.int .i64 0) l i)[i]'(by omega)=(.int .i64 0):=by
      have h9:=e2
      rw [List.getElem?_eq_getElem (show i < (upTo num (.int .i64 0) l i).length by omega)] at h9
      exact h9
     simp [num,h1,e1,tx,hlen,vals?]
     refine LoopNext.mk (i+1) (by omega) (by omega) (Le.mk _ _ ?_ ?_)
     · simp [num];exact wrap_i64 (by omega) (by omega)
     · rw [← e3]
       simp [num,tx,e4]
   · have e1:i=l.length:=by omega
     subst e1
     simp [num,upTo_all,frzOf,PV.pl]
theorem markq_int {K:Kx (PExit→St→Prop)} (xs:List RV) (k i:Nat) (a0:Int) (hi:i < xs.length) (hk:k < 549755813888) (hl:xs.length < 1099511627776) (hx:xs[i]?.getD .nilptr=.int .i64 a0)
 (hn:∀ st':St,st'.env 0=.own 900→st'.env 1=.val (num ((k+1:Nat):Int))→st'.env 5=.val (num ((i+1:Nat):Int))→st'.mem 900=.row 3 1 (xs.set i (num (mkInt k)))→K.k .normal st') :
 EC Tryz.prog ir25_l6 ⟨envOf [(0,.own 900),(1,.val (num k)),(5,.val (num i))],memOf [(900,.row 3 1 xs)]⟩ (K:=K):=by
 unfold ir25_l6
 have s1:IntKind.i64.wrap ((k:Int)+1)=(k:Int)+1:=wrap_i64 (by omega) (by omega)
 have si:IntKind.i64.wrap ((i:Int)+1)=(i:Int)+1:=wrap_i64 (by omega) (by omega)
 have hx':xs[i]=.int .i64 a0:=by rw [← hx];simp [List.getElem?_eq_getElem hi]
 simp [num,hi,hx,s1]
 refine hn _ ?_ ?_ ?_ ?_
 · simp
 · simp only [evalC_skip,evalC_reg,evalC_draw,evalC_seq,evalC_cond,evalC_block,evalC_exit,evalC_ret,then_normal,then_exit,then_ret,then_pan,inBlock_normal,inBlock_ret,inBlock_pan,inBlock_exit,condS_bool,evalOps_nil,evalOps_cons,evalX_nil,evalX_cons,guardS_none,guardS_some,setD_some,setD_none,ev_t,ev_k,Option.getD_some,Option.getD_none,stepE_mov,stepE_pick,stepE_alloc,stepE_box,stepE_build,stepE_store,stepE_app,stepE_nilck,stepE_bin,stepE_eqb,stepE_eqs,stepE_un,stepE_conv,stepE_faddr,stepE_fld,stepE_load,stepE_iaddr,stepE_idx,stepE_slc,stepE_ext,stepE_lens,stepE_len,stepE_tostr,stepE_mkfn,stepE_ifc,stepE_mn,stepE_mx,stepE_mx4,stepE_mks,stepE_isnil,stepE_lit,stepE_call,stepE_callv,stepX_mov,stepX_nilck,stepX_bin,stepX_eqb,stepX_eqs,stepX_un,stepX_conv,stepX_faddr,stepX_fld,stepX_load,stepX_iaddr,stepX_idx,stepX_slc,stepX_ext,stepX_lens,stepX_len,stepX_tostr,stepX_mkfn,stepX_ifc,stepX_mn,stepX_mx,stepX_mx4,stepX_pick,stepX_build,stepX_lit,stepX_call,stepX_callv,binS_int,binS_str,binI_add,binI_sub,binI_mul,binI_quo,binI_rem,binI_eql,binI_neq,binI_lss,binI_leq,binI_gtr,binI_geq,binStr_add,binStr_eql,binStr_neq,unS_not,unS_neg,upd_app,envOf_nil,envOf_cons,memOf_nil,memOf_cons,RetP_ret,RetP_normal,resP_t,resP_tt,fin_env,frz_val,frz_emp,frz_own,pl_val,pl_emp,kill_val,kill_own,kill_ptr,kill_emp,kill_elt,kill_at,kill_undef,kill_fn,kill_skip,killM_row,killM_box,killM_dead,Kx_k,fillP_nil,fillP_cons,slc_lo,slc_hi,slc_lohi,slcl_lo,slcl_hi,Option.map_some,Option.map_none,iteP_true,iteP_false,onBool_val,onBool_skip,nilck_ptr,nilck_elt,nilck_at,nilck_fn,eqb_val,eqs_val,conv_val,faddr_ptr,faddr_elt,faddr_at,fld_val,fld_agg,load_ptr,loadBox_box,load_elt,loadRow_row,load_at,iaddr_lst,iaddr_own,iaddrRow_row,idx_val,ext_tup,lens_val,len_val,len_emp,len_own,lenRow_row,tostr_val,tostr_emp,tostr_own,tostrRow_row,ifc_val,mn_val,mx_val,mx4_val,lit_some,fn_fn,mks_val,isnil_nilif,isnil_ifc,isnil_emp,isnil_list,isnil_own,isnilRow_row,store_ptrK,storeBox_box,store_eltK,storeRow_row,add_some,app_own,app_emp,appRow_row,addOf_list,addOf_emp,addOf_own,rowOf_row,upd_app,s1,num]
   simp
   try omega
 · simp [num,si]
 · simp [hi,hx,hx']
   try simp [s1,mkInt,num,tx]
theorem h_markIntS (l:List Int) (k:Nat) (hk:k < 8388608) (hl:l.length≤1048576):CallRow Tryz.prog 25 (.own 0) 3 1 (l.map num) [.val (num k)] (num ((k+1*l.length:Nat):Int)) ((mkL mkInt 1 l.length k).map num):=by
 refine callrow_ok mixed ok25 rfl ?_
 unfold ir25
 rw [evalC_intro]
 simp [initSt,avPVs,avPV,avBoxesL,avBoxes,initRow,PV.nm,num]
 refine loop_EC (X:=Nat) (fun i=>⟨envOf [(0,.own 900),(1,.val (num ((k+1*i:Nat):Int))),(5,.val (num i))],memOf [(900,.row 3 1 ((mkU mkInt 1 l k i).map num))]⟩) (fun i=>i≤l.length) (fun i=>l.length - i) 0 (Le.mk _ _ ?_ ?_) (Nat.zero_le _) ?_
 · simp [upd,num,PV.kill]
 · simp [mkU_zero]
 · intro i hi
   have hml:=mkU_len mkInt 1 l k i hi
   by_cases h1:i < l.length
   · have hmi:i < (mkU mkInt 1 l k i).length:=by omega
     have hset:=mkU_set mkInt 1 l k i h1
     refine markq_int ((mkU mkInt 1 l k i).map num) (k+1*i) i (mkU mkInt 1 l k i)[i] (by simpa using hmi) (by omega) (by simp;omega) (by simp [List.getElem?_eq_getElem hmi,num]) (fun st' q0 q1 q5 qm=>?_)
     simp
     refine LoopNext.mk (i+1) h1 (by omega) (Le.mk _ _ ?_ ?_)
     · simp [q0,q1,q5,num]
       omega
     · rw [← List.map_set,hset] at qm
       simp [qm]
   · have e:i=l.length:=by omega
     subst e
     unfold ir25_l6
     simp [num,hml,mkU_all,mkL_len]
theorem g_toTargetS_own2 (l:List LTarget) (hx:bdS 1048576 (bdTarget 1048576) l):CallOK Tryz.prog 155 [.val (.list 3 (l.map rvTarget))] (.ret (.own 0) [⟨162,3,l.map rvTarget⟩]) []:=by
 refine call_mk (mk:=fun i=>.own i) mixed ok155 rfl (fun _=>rfl) ?_
 unfold ir155
 rw [evalC_intro]
 have hl:l.length≤1048576:=hx.1
 simp [initSt,avPVs,avPV,avBoxesL,avBoxes,num,vals?]
 refine ⟨by omega,by omega,?_⟩
 refine loop_EC (X:=Nat) (fun i=>⟨envOf [(0,.val (.list 3 (l.map rvTarget))),(3,.own 7),(4,.val (num i))],memOf [(7,.row 162 3 (upTo rvTarget (.agg [.str (bs []),.int .i64 0,.int .i64 0]) l i))]⟩) (fun i=>i≤l.length) (fun i=>l.length - i) 0 (Le.mk _ _ ?_ ?_) ?_ ?_
 · simp [upd,num,PV.kill]
 · simp [upd,num,bs,upTo_zero]
 · simp
 · intro i hi
   have hlen:=upTo_len rvTarget (.agg [.str (bs []),.int .i64 0,.int .i64 0]) l i hi
   simp [num,vals?]
   refine iteP_intro (fun h1=>?_) (fun h1=>?_)
   · have e1:(l.map rvTarget)[i]?.getD .nilptr=rvTarget l[i]:=by simp [List.getElem?_eq_getElem h1]
     have e2:=upTo_at rvTarget (.agg [.str (bs []),.int .i64 0,.int .i64 0]) l i h1
     have e3:=upTo_set rvTarget (.agg [.str (bs []),.int .i64 0,.int .i64 0]) l i h1
     have e4:(upTo rvTarget (.agg [.str (bs []),.int .i64 0,.int .i64 0]) l i)[i]'(by omega)=(.agg [.str (bs []),.int .i64 0,.int .i64 0]):=by
      have h9:=e2
      rw [List.getElem?_eq_getElem (show i < (upTo rvTarget (.agg [.str (bs []),.int .i64 0,.int .i64 0]) l i).length by omega)] at h9
      exact h9
     simp [num,h1,e1,rvTarget,tx,hlen,vals?]
     refine callS_val rfl rfl (.inl rfl) (g_toTarget l[i] (hx.2 _ (List.getElem_mem h1))) ?_
     simp [num,h1,e1,e2,rvTarget,tx,hlen,vals?]
     refine LoopNext.mk (i+1) (by omega) (by omega) (Le.mk _ _ ?_ ?_)
     · simp [num];exact wrap_i64 (by omega) (by omega)
     · rw [← e3]
       simp [rvTarget,num,tx,e4]
   · have e1:i=l.length:=by omega
     subst e1
     simp [num,upTo_all,frzOf,PV.pl]
theorem markq_Target {K:Kx (PExit→St→Prop)} (xs:List RV) (k i:Nat) (a0 a1 a2:RV) (hi:i < xs.length) (hk:k < 549755813888) (hl:xs.length < 1099511627776) (hx:xs[i]?.getD .nilptr=.agg [a0,a1,a2])
 (hn:∀ st':St,st'.env 0=.own 900→st'.env 1=.val (num ((k+3:Nat):Int))→st'.env 5=.val (num ((i+1:Nat):Int))→st'.mem 900=.row 162 3 (xs.set i (rvTarget (mkTarget k)))→K.k .normal st') :
 EC Tryz.prog ir95_l6 ⟨envOf [(0,.own 900),(1,.val (num k)),(5,.val (num i))],memOf [(900,.row 162 3 xs)]⟩ (K:=K):=by
 unfold ir95_l6
 have s1:IntKind.i64.wrap ((k:Int)+1)=(k:Int)+1:=wrap_i64 (by omega) (by omega)
 have hmk0:CallOK Tryz.prog 94 [.val (.int .i64 ((k:Int)))] (.ret (.val (.str (bs (lmk (k+0))))) []) []:=by
  have h:=c_markText (k+0) (by omega)
  exact h
 have s2:IntKind.i64.wrap ((k:Int)+1+1)=(k:Int)+1+1:=wrap_i64 (by omega) (by omega)
 have c1:((k+1:Nat):Int)=(k:Int)+1:=by omega
 have s3:IntKind.i64.wrap ((k:Int)+1+1+1)=(k:Int)+1+1+1:=wrap_i64 (by omega) (by omega)
 have c2:((k+2:Nat):Int)=(k:Int)+1+1:=by omega
 have si:IntKind.i64.wrap ((i:Int)+1)=(i:Int)+1:=wrap_i64 (by omega) (by omega)
 have hx':xs[i]=.agg [a0,a1,a2]:=by rw [← hx];simp [List.getElem?_eq_getElem hi]
 simp [num,hi]
 refine callS_val rfl rfl (.inl rfl) hmk0 ?_
 simp [num,hi,hx,tx,s1,s2,s3]
 refine hn _ ?_ ?_ ?_ ?_
 · simp
 · simp only [evalC_skip,evalC_reg,evalC_draw,evalC_seq,evalC_cond,evalC_block,evalC_exit,evalC_ret,then_normal,then_exit,then_ret,then_pan,inBlock_normal,inBlock_ret,inBlock_pan,inBlock_exit,condS_bool,evalOps_nil,evalOps_cons,evalX_nil,evalX_cons,guardS_none,guardS_some,setD_some,setD_none,ev_t,ev_k,Option.getD_some,Option.getD_none,stepE_mov,stepE_pick,stepE_alloc,stepE_box,stepE_build,stepE_store,stepE_app,stepE_nilck,stepE_bin,stepE_eqb,stepE_eqs,stepE_un,stepE_conv,stepE_faddr,stepE_fld,stepE_load,stepE_iaddr,stepE_idx,stepE_slc,stepE_ext,stepE_lens,stepE_len,stepE_tostr,stepE_mkfn,stepE_ifc,stepE_mn,stepE_mx,stepE_mx4,stepE_mks,stepE_isnil,stepE_lit,stepE_call,stepE_callv,stepX_mov,stepX_nilck,stepX_bin,stepX_eqb,stepX_eqs,stepX_un,stepX_conv,stepX_faddr,stepX_fld,stepX_load,stepX_iaddr,stepX_idx,stepX_slc,stepX_ext,stepX_lens,stepX_len,stepX_tostr,stepX_mkfn,stepX_ifc,stepX_mn,stepX_mx,stepX_mx4,stepX_pick,stepX_build,stepX_lit,stepX_call,stepX_callv,binS_int,binS_str,binI_add,binI_sub,binI_mul,binI_quo,binI_rem,binI_eql,binI_neq,binI_lss,binI_leq,binI_gtr,binI_geq,binStr_add,binStr_eql,binStr_neq,unS_not,unS_neg,upd_app,envOf_nil,envOf_cons,memOf_nil,memOf_cons,RetP_ret,RetP_normal,resP_t,resP_tt,fin_env,frz_val,frz_emp,frz_own,pl_val,pl_emp,kill_val,kill_own,kill_ptr,kill_emp,kill_elt,kill_at,kill_undef,kill_fn,kill_skip,killM_row,killM_box,killM_dead,Kx_k,fillP_nil,fillP_cons,slc_lo,slc_hi,slc_lohi,slcl_lo,slcl_hi,Option.map_some,Option.map_none,iteP_true,iteP_false,onBool_val,onBool_skip,nilck_ptr,nilck_elt,nilck_at,nilck_fn,eqb_val,eqs_val,conv_val,faddr_ptr,faddr_elt,faddr_at,fld_val,fld_agg,load_ptr,loadBox_box,load_elt,loadRow_row,load_at,iaddr_lst,iaddr_own,iaddrRow_row,idx_val,ext_tup,lens_val,len_val,len_emp,len_own,lenRow_row,tostr_val,tostr_emp,tostr_own,tostrRow_row,ifc_val,mn_val,mx_val,mx4_val,lit_some,fn_fn,mks_val,isnil_nilif,isnil_ifc,isnil_emp,isnil_list,isnil_own,isnilRow_row,store_ptrK,storeBox_box,store_eltK,storeRow_row,add_some,app_own,app_emp,appRow_row,addOf_list,addOf_emp,addOf_own,rowOf_row,upd_app,s1,s2,s3,num]
   simp
   try omega
 · simp [num,si]
 · simp [hi,hx,hx']
   try simp [s1,s2,s3,c1,c2,rvTarget,mkTarget,num,tx]
theorem h_markTargetS (l:List LTarget) (k:Nat) (hk:k < 8388608) (hl:l.length≤1048576):CallRow Tryz.prog 95 (.own 0) 162 3 (l.map rvTarget) [.val (num k)] (num ((k+3*l.length:Nat):Int)) ((mkL mkTarget 3 l.length k).map rvTarget):=by
 refine callrow_ok mixed ok95 rfl ?_
 unfold ir95
 rw [evalC_intro]
 simp [initSt,avPVs,avPV,avBoxesL,avBoxes,initRow,PV.nm,num]
 refine loop_EC (X:=Nat) (fun i=>⟨envOf [(0,.own 900),(1,.val (num ((k+3*i:Nat):Int))),(5,.val (num i))],memOf [(900,.row 162 3 ((mkU mkTarget 3 l k i).map rvTarget))]⟩) (fun i=>i≤l.length) (fun i=>l.length - i) 0 (Le.mk _ _ ?_ ?_) (Nat.zero_le _) ?_
 · simp [upd,num,PV.kill]
 · simp [mkU_zero]
 · intro i hi
   have hml:=mkU_len mkTarget 3 l k i hi
   by_cases h1:i < l.length
   · have hmi:i < (mkU mkTarget 3 l k i).length:=by omega
     have hset:=mkU_set mkTarget 3 l k i h1
     refine markq_Target ((mkU mkTarget 3 l k i).map rvTarget) (k+3*i) i (tx (mkU mkTarget 3 l k i)[i].url) (num (mkU mkTarget 3 l k i)[i].prio) (num (mkU mkTarget 3 l k i)[i].weight) (by simpa using hmi) (by omega) (by simp;omega) (by simp [List.getElem?_eq_getElem hmi,rvTarget]) (fun st' q0 q1 q5 qm=>?_)
     simp
     refine LoopNext.mk (i+1) h1 (by omega) (Le.mk _ _ ?_ ?_)
     · simp [q0,q1,q5,num]
       omega
     · rw [← List.map_set,hset] at qm
       simp [qm]
   · have e:i=l.length:=by omega
     subst e
     unfold ir95_l6
     simp [num,hml,mkU_all,mkL_len]
theorem g_toPeerS_own2 (l:List LPeer) (hx:bdS 1048576 (bdPeer 1048576) l):CallOK Tryz.prog 117 [.val (.list 6 (l.map rvPeer))] (.ret (.own 0) [⟨164,6,l.map rvPeer⟩]) []:=by
 refine call_mk (mk:=fun i=>.own i) mixed ok117 rfl (fun _=>rfl) ?_
 unfold ir117
 rw [evalC_intro]
 have hl:l.length≤1048576:=hx.1
 simp [initSt,avPVs,avPV,avBoxesL,avBoxes,num,vals?]
 refine ⟨by omega,by omega,?_⟩
 refine loop_EC (X:=Nat) (fun i=>⟨envOf [(0,.val (.list 6 (l.map rvPeer))),(3,.own 7),(4,.val (num i))],memOf [(7,.row 164 6 (upTo rvPeer (.agg [.str (bs []),.int .i64 0,.int .i64 0,.int .i64 0,.int .i64 0,.bool false]) l i))]⟩) (fun i=>i≤l.length) (fun i=>l.length - i) 0 (Le.mk _ _ ?_ ?_) ?_ ?_
 · simp [upd,num,PV.kill]
 · simp [upd,num,bs,upTo_zero]
 · simp
 · intro i hi
   have hlen:=upTo_len rvPeer (.agg [.str (bs []),.int .i64 0,.int .i64 0,.int .i64 0,.int .i64 0,.bool false]) l i hi
   simp [num,vals?]
   refine iteP_intro (fun h1=>?_) (fun h1=>?_)
   · have e1:(l.map rvPeer)[i]?.getD .nilptr=rvPeer l[i]:=by simp [List.getElem?_eq_getElem h1]
     have e2:=upTo_at rvPeer (.agg [.str (bs []),.int .i64 0,.int .i64 0,.int .i64 0,.int .i64 0,.bool false]) l i h1
     have e3:=upTo_set rvPeer (.agg [.str (bs []),.int .i64 0,.int .i64 0,.int .i64 0,.int .i64 0,.bool false]) l i h1
     have e4:(upTo rvPeer (.agg [.str (bs []),.int .i64 0,.int .i64 0,.int .i64 0,.int .i64 0,.bool false]) l i)[i]'(by omega)=(.agg [.str (bs []),.int .i64 0,.int .i64 0,.int .i64 0,.int .i64 0,.bool false]):=by
      have h9:=e2
      rw [List.getElem?_eq_getElem (show i < (upTo rvPeer (.agg [.str (bs []),.int .i64 0,.int .i64 0,.int .i64 0,.int .i64 0,.bool false]) l i).length by omega)] at h9
      exact h9
     simp [num,h1,e1,rvTarget,rvPeer,tx,hlen,vals?]
     refine callS_val rfl rfl (.inl rfl) (g_toPeer l[i] (hx.2 _ (List.getElem_mem h1))) ?_
     simp [num,h1,e1,e2,rvTarget,rvPeer,tx,hlen,vals?]
     refine LoopNext.mk (i+1) (by omega) (by omega) (Le.mk _ _ ?_ ?_)
     · simp [num];exact wrap_i64 (by omega) (by omega)
     · rw [← e3]
       simp [rvTarget,rvPeer,num,tx,e4]
   · have e1:i=l.length:=by omega
     subst e1
     simp [num,upTo_all,frzOf,PV.pl]
theorem markq_Peer {K:Kx (PExit→St→Prop)} (xs:List RV) (k i:Nat) (a0 a1 a2 a3 a4 a5:RV) (hi:i < xs.length) (hk:k < 549755813888) (hl:xs.length < 1099511627776) (hx:xs[i]?.getD .nilptr=.agg [a0,a1,a2,a3,a4,a5])
 (hn:∀ st':St,st'.env 0=.own 900→st'.env 1=.val (num ((k+6:Nat):Int))→st'.env 5=.val (num ((i+1:Nat):Int))→st'.mem 900=.row 164 6 (xs.set i (rvPeer (mkPeer k)))→K.k .normal st') :
 EC Tryz.prog ir96_l6 ⟨envOf [(0,.own 900),(1,.val (num k)),(5,.val (num i))],memOf [(900,.row 164 6 xs)]⟩ (K:=K):=by
 unfold ir96_l6
 have s1:IntKind.i64.wrap ((k:Int)+1)=(k:Int)+1:=wrap_i64 (by omega) (by omega)
 have hmk0:CallOK Tryz.prog 94 [.val (.int .i64 ((k:Int)))] (.ret (.val (.str (bs (lmk (k+0))))) []) []:=by
  have h:=c_markText (k+0) (by omega)
  exact h
 have s2:IntKind.i64.wrap ((k:Int)+1+1)=(k:Int)+1+1:=wrap_i64 (by omega) (by omega)
 have c1:((k+1:Nat):Int)=(k:Int)+1:=by omega
 have s3:IntKind.i64.wrap ((k:Int)+1+1+1)=(k:Int)+1+1+1:=wrap_i64 (by omega) (by omega)
 have c2:((k+2:Nat):Int)=(k:Int)+1+1:=by omega
 have s4:IntKind.i64.wrap ((k:Int)+1+1+1+1)=(k:Int)+1+1+1+1:=wrap_i64 (by omega) (by omega)
 have c3:((k+3:Nat):Int)=(k:Int)+1+1+1:=by omega
 have s5:IntKind.i64.wrap ((k:Int)+1+1+1+1+1)=(k:Int)+1+1+1+1+1:=wrap_i64 (by omega) (by omega)
 have c4:((k+4:Nat):Int)=(k:Int)+1+1+1+1:=by omega
 have s6:IntKind.i64.wrap ((k:Int)+1+1+1+1+1+1)=(k:Int)+1+1+1+1+1+1:=wrap_i64 (by omega) (by omega)
 have c5:((k+5:Nat):Int)=(k:Int)+1+1+1+1+1:=by omega
 have hm5:(((k:Int)+1+1+1+1+1).tmod 3 == 0)=decide ((k+5) % 3=0):=by
  rw [Int.tmod_eq_emod_of_nonneg (by omega),Bool.eq_iff_iff]
  simp only [beq_iff_eq,decide_eq_true_eq]
  omega
 have si:IntKind.i64.wrap ((i:Int)+1)=(i:Int)+1:=wrap_i64 (by omega) (by omega)
 have hx':xs[i]=.agg [a0,a1,a2,a3,a4,a5]:=by rw [← hx];simp [List.getElem?_eq_getElem hi]
 simp [num,hi]
 refine callS_val rfl rfl (.inl rfl) hmk0 ?_
 simp [num,hi,hx,tx,s1,s2,s3,s4,s5,s6]
 refine hn _ ?_ ?_ ?_ ?_
 · simp
 · simp only [evalC_skip,evalC_reg,evalC_draw,evalC_seq,evalC_cond,evalC_block,evalC_exit,evalC_ret,then_normal,then_exit,then_ret,then_pan,inBlock_normal,inBlock_ret,inBlock_pan,inBlock_exit,condS_bool,evalOps_nil,evalOps_cons,evalX_nil,evalX_cons,guardS_none,guardS_some,setD_some,setD_none,ev_t,ev_k,Option.getD_some,Option.getD_none,stepE_mov,stepE_pick,stepE_alloc,stepE_box,stepE_build,stepE_store,stepE_app,stepE_nilck,stepE_bin,stepE_eqb,stepE_eqs,stepE_un,stepE_conv,stepE_faddr,stepE_fld,stepE_load,stepE_iaddr,stepE_idx,stepE_slc,stepE_ext,stepE_lens,stepE_len,stepE_tostr,stepE_mkfn,stepE_ifc,stepE_mn,stepE_mx,stepE_mx4,stepE_mks,stepE_isnil,stepE_lit,stepE_call,stepE_callv,stepX_mov,stepX_nilck,stepX_bin,stepX_eqb,stepX_eqs,stepX_un,stepX_conv,stepX_faddr,stepX_fld,stepX_load,stepX_iaddr,stepX_idx,stepX_slc,stepX_ext,stepX_lens,stepX_len,stepX_tostr,stepX_mkfn,stepX_ifc,stepX_mn,stepX_mx,stepX_mx4,stepX_pick,stepX_build,stepX_lit,stepX_call,stepX_callv,binS_int,binS_str,binI_add,binI_sub,binI_mul,binI_quo,binI_rem,binI_eql,binI_neq,binI_lss,binI_leq,binI_gtr,binI_geq,binStr_add,binStr_eql,binStr_neq,unS_not,unS_neg,upd_app,envOf_nil,envOf_cons,memOf_nil,memOf_cons,RetP_ret,RetP_normal,resP_t,resP_tt,fin_env,frz_val,frz_emp,frz_own,pl_val,pl_emp,kill_val,kill_own,kill_ptr,kill_emp,kill_elt,kill_at,kill_undef,kill_fn,kill_skip,killM_row,killM_box,killM_dead,Kx_k,fillP_nil,fillP_cons,slc_lo,slc_hi,slc_lohi,slcl_lo,slcl_hi,Option.map_some,Option.map_none,iteP_true,iteP_false,onBool_val,onBool_skip,nilck_ptr,nilck_elt,nilck_at,nilck_fn,eqb_val,eqs_val,conv_val,faddr_ptr,faddr_elt,faddr_at,fld_val,fld_agg,load_ptr,loadBox_box,load_elt,loadRow_row,load_at,iaddr_lst,iaddr_own,iaddrRow_row,idx_val,ext_tup,lens_val,len_val,len_emp,len_own,lenRow_row,tostr_val,tostr_emp,tostr_own,tostrRow_row,ifc_val,mn_val,mx_val,mx4_val,lit_some,fn_fn,mks_val,isnil_nilif,isnil_ifc,isnil_emp,isnil_list,isnil_own,isnilRow_row,store_ptrK,storeBox_box,store_eltK,storeRow_row,add_some,app_own,app_emp,appRow_row,addOf_list,addOf_emp,addOf_own,rowOf_row,upd_app,s1,s2,s3,s4,s5,s6,num]
   simp
   try omega
 · simp [num,si]
 · simp [hi,hx,hx']
   try simp [s1,s2,s3,s4,s5,s6,c1,c2,c3,c4,c5,hm5,rvTarget,rvPeer,mkPeer,num,tx]
theorem h_markPeerS (l:List LPeer) (k:Nat) (hk:k < 8388608) (hl:l.length≤1048576):CallRow Tryz.prog 96 (.own 0) 164 6 (l.map rvPeer) [.val (num k)] (num ((k+6*l.length:Nat):Int)) ((mkL mkPeer 6 l.length k).map rvPeer):=by
 refine callrow_ok mixed ok96 rfl ?_
 unfold ir96
 rw [evalC_intro]
 simp [initSt,avPVs,avPV,avBoxesL,avBoxes,initRow,PV.nm,num]
 refine loop_EC (X:=Nat) (fun i=>⟨envOf [(0,.own 900),(1,.val (num ((k+6*i:Nat):Int))),(5,.val (num i))],memOf [(900,.row 164 6 ((mkU mkPeer 6 l k i).map rvPeer))]⟩) (fun i=>i≤l.length) (fun i=>l.length - i) 0 (Le.mk _ _ ?_ ?_) (Nat.zero_le _) ?_
 · simp [upd,num,PV.kill]
 · simp [mkU_zero]
 · intro i hi
   have hml:=mkU_len mkPeer 6 l k i hi
   by_cases h1:i < l.length
   · have hmi:i < (mkU mkPeer 6 l k i).length:=by omega
     have hset:=mkU_set mkPeer 6 l k i h1
     refine markq_Peer ((mkU mkPeer 6 l k i).map rvPeer) (k+6*i) i (tx (mkU mkPeer 6 l k i)[i].target.url) (num (mkU mkPeer 6 l k i)[i].target.prio) (num (mkU mkPeer 6 l k i)[i].target.weight) (num (mkU mkPeer 6 l k i)[i].fails) (num (mkU mkPeer 6 l k i)[i].retry) (.bool (mkU mkPeer 6 l k i)[i].gone) (by simpa using hmi) (by omega) (by simp;omega) (by simp [List.getElem?_eq_getElem hmi,rvTarget,rvPeer]) (fun st' q0 q1 q5 qm=>?_)
     simp
     refine LoopNext.mk (i+1) h1 (by omega) (Le.mk _ _ ?_ ?_)
     · simp [q0,q1,q5,num]
       omega
     · rw [← List.map_set,hset] at qm
       simp [qm]
   · have e:i=l.length:=by omega
     subst e
     unfold ir96_l6
     simp [num,hml,mkU_all,mkL_len]
theorem g_toReportS_own2 (l:List LReport) (hx:bdS 1048576 (bdReport 1048576) l):CallOK Tryz.prog 157 [.val (.list 4 (l.map rvReport))] (.ret (.own 0) [⟨146,4,l.map rvReport⟩]) []:=by
 refine call_mk (mk:=fun i=>.own i) mixed ok157 rfl (fun _=>rfl) ?_
 unfold ir157
 rw [evalC_intro]
 have hl:l.length≤1048576:=hx.1
 simp [initSt,avPVs,avPV,avBoxesL,avBoxes,num,vals?]
 refine ⟨by omega,by omega,?_⟩
 refine loop_EC (X:=Nat) (fun i=>⟨envOf [(0,.val (.list 4 (l.map rvReport))),(3,.own 7),(4,.val (num i))],memOf [(7,.row 146 4 (upTo rvReport (.agg [.int .i64 0,.int .i64 0,.int .i64 0,.str (bs [])]) l i))]⟩) (fun i=>i≤l.length) (fun i=>l.length - i) 0 (Le.mk _ _ ?_ ?_) ?_ ?_
 · simp [upd,num,PV.kill]
 · simp [upd,num,bs,upTo_zero]
 · simp
 · intro i hi
   have hlen:=upTo_len rvReport (.agg [.int .i64 0,.int .i64 0,.int .i64 0,.str (bs [])]) l i hi
   simp [num,vals?]
   refine iteP_intro (fun h1=>?_) (fun h1=>?_)
   · have e1:(l.map rvReport)[i]?.getD .nilptr=rvReport l[i]:=by simp [List.getElem?_eq_getElem h1]
     have e2:=upTo_at rvReport (.agg [.int .i64 0,.int .i64 0,.int .i64 0,.str (bs [])]) l i h1
     have e3:=upTo_set rvReport (.agg [.int .i64 0,.int .i64 0,.int .i64 0,.str (bs [])]) l i h1
     have e4:(upTo rvReport (.agg [.int .i64 0,.int .i64 0,.int .i64 0,.str (bs [])]) l i)[i]'(by omega)=(.agg [.int .i64 0,.int .i64 0,.int .i64 0,.str (bs [])]):=by
      have h9:=e2
      rw [List.getElem?_eq_getElem (show i < (upTo rvReport (.agg [.int .i64 0,.int .i64 0,.int .i64 0,.str (bs [])]) l i).length by omega)] at h9
      exact h9
     simp [num,h1,e1,rvReport,tx,hlen,vals?]
     refine callS_val rfl rfl (.inl rfl) (g_toReport l[i] (hx.2 _ (List.getElem_mem h1))) ?_
     simp [num,h1,e1,e2,rvReport,tx,hlen,vals?]
     refine LoopNext.mk (i+1) (by omega) (by omega) (Le.mk _ _ ?_ ?_)
     · simp [num];exact wrap_i64 (by omega) (by omega)
     · rw [← e3]
       simp [rvReport,num,tx,e4]
   · have e1:i=l.length:=by omega
     subst e1
     simp [num,upTo_all,frzOf,PV.pl]
theorem markq_Report {K:Kx (PExit→St→Prop)} (xs:List RV) (k i:Nat) (a0 a1 a2 a3:RV) (hi:i < xs.length) (hk:k < 549755813888) (hl:xs.length < 1099511627776) (hx:xs[i]?.getD .nilptr=.agg [a0,a1,a2,a3])
 (hn:∀ st':St,st'.env 0=.own 900→st'.env 1=.val (num ((k+4:Nat):Int))→st'.env 5=.val (num ((i+1:Nat):Int))→st'.mem 900=.row 146 4 (xs.set i (rvReport (mkReport k)))→K.k .normal st') :
 EC Tryz.prog ir97_l6 ⟨envOf [(0,.own 900),(1,.val (num k)),(5,.val (num i))],memOf [(900,.row 146 4 xs)]⟩ (K:=K):=by
 unfold ir97_l6
 have s1:IntKind.i64.wrap ((k:Int)+1)=(k:Int)+1:=wrap_i64 (by omega) (by omega)
 have s2:IntKind.i64.wrap ((k:Int)+1+1)=(k:Int)+1+1:=wrap_i64 (by omega) (by omega)
 have c1:((k+1:Nat):Int)=(k:Int)+1:=by omega
 have s3:IntKind.i64.wrap ((k:Int)+1+1+1)=(k:Int)+1+1+1:=wrap_i64 (by omega) (by omega)
 have c2:((k+2:Nat):Int)=(k:Int)+1+1:=by omega
 have s4:IntKind.i64.wrap ((k:Int)+1+1+1+1)=(k:Int)+1+1+1+1:=wrap_i64 (by omega) (by omega)
 have c3:((k+3:Nat):Int)=(k:Int)+1+1+1:=by omega
 have hmk3:CallOK Tryz.prog 94 [.val (.int .i64 ((k:Int)+1+1+1))] (.ret (.val (.str (bs (lmk (k+3))))) []) []:=by
  have h:=c_markText (k+3) (by omega)
  unfold num tx at h
  rwa [c3] at h
 have si:IntKind.i64.wrap ((i:Int)+1)=(i:Int)+1:=wrap_i64 (by omega) (by omega)
 have hx':xs[i]=.agg [a0,a1,a2,a3]:=by rw [← hx];simp [List.getElem?_eq_getElem hi]
 simp [num,hi,hx,s1,s2,s3,s4]
 refine callS_val rfl rfl (.inl rfl) hmk3 ?_
 simp [num,hi,hx,tx,s1,s2,s3,s4]
 refine hn _ ?_ ?_ ?_ ?_
 · simp
 · simp only [evalC_skip,evalC_reg,evalC_draw,evalC_seq,evalC_cond,evalC_block,evalC_exit,evalC_ret,then_normal,then_exit,then_ret,then_pan,inBlock_normal,inBlock_ret,inBlock_pan,inBlock_exit,condS_bool,evalOps_nil,evalOps_cons,evalX_nil,evalX_cons,guardS_none,guardS_some,setD_some,setD_none,ev_t,ev_k,Option.getD_some,Option.getD_none,stepE_mov,stepE_pick,stepE_alloc,stepE_box,stepE_build,stepE_store,stepE_app,stepE_nilck,stepE_bin,stepE_eqb,stepE_eqs,stepE_un,stepE_conv,stepE_faddr,stepE_fld,stepE_load,stepE_iaddr,stepE_idx,stepE_slc,stepE_ext,stepE_lens,stepE_len,stepE_tostr,stepE_mkfn,stepE_ifc,stepE_mn,stepE_mx,stepE_mx4,stepE_mks,stepE_isnil,stepE_lit,stepE_call,stepE_callv,stepX_mov,stepX_nilck,stepX_bin,stepX_eqb,stepX_eqs,stepX_un,stepX_conv,stepX_faddr,stepX_fld,stepX_load,stepX_iaddr,stepX_idx,stepX_slc,stepX_ext,stepX_lens,stepX_len,stepX_tostr,stepX_mkfn,stepX_ifc,stepX_mn,stepX_mx,stepX_mx4,stepX_pick,stepX_build,stepX_lit,stepX_call,stepX_callv,binS_int,binS_str,binI_add,binI_sub,binI_mul,binI_quo,binI_rem,binI_eql,binI_neq,binI_lss,binI_leq,binI_gtr,binI_geq,binStr_add,binStr_eql,binStr_neq,unS_not,unS_neg,upd_app,envOf_nil,envOf_cons,memOf_nil,memOf_cons,RetP_ret,RetP_normal,resP_t,resP_tt,fin_env,frz_val,frz_emp,frz_own,pl_val,pl_emp,kill_val,kill_own,kill_ptr,kill_emp,kill_elt,kill_at,kill_undef,kill_fn,kill_skip,killM_row,killM_box,killM_dead,Kx_k,fillP_nil,fillP_cons,slc_lo,slc_hi,slc_lohi,slcl_lo,slcl_hi,Option.map_some,Option.map_none,iteP_true,iteP_false,onBool_val,onBool_skip,nilck_ptr,nilck_elt,nilck_at,nilck_fn,eqb_val,eqs_val,conv_val,faddr_ptr,faddr_elt,faddr_at,fld_val,fld_agg,load_ptr,loadBox_box,load_elt,loadRow_row,load_at,iaddr_lst,iaddr_own,iaddrRow_row,idx_val,ext_tup,lens_val,len_val,len_emp,len_own,lenRow_row,tostr_val,tostr_emp,tostr_own,tostrRow_row,ifc_val,mn_val,mx_val,mx4_val,lit_some,fn_fn,mks_val,isnil_nilif,isnil_ifc,isnil_emp,isnil_list,isnil_own,isnilRow_row,store_ptrK,storeBox_box,store_eltK,storeRow_row,add_some,app_own,app_emp,appRow_row,addOf_list,addOf_emp,addOf_own,rowOf_row,upd_app,s1,s2,s3,s4,num]
   simp
   try omega
 · simp [num,si]
 · simp [hi,hx,hx']
   try simp [s1,s2,s3,s4,c1,c2,c3,rvReport,mkReport,num,tx]
theorem h_markReportS (l:List LReport) (k:Nat) (hk:k < 8388608) (hl:l.length≤1048576):CallRow Tryz.prog 97 (.own 0) 146 4 (l.map rvReport) [.val (num k)] (num ((k+4*l.length:Nat):Int)) ((mkL mkReport 4 l.length k).map rvReport):=by
 refine callrow_ok mixed ok97 rfl ?_
 unfold ir97
 rw [evalC_intro]
 simp [initSt,avPVs,avPV,avBoxesL,avBoxes,initRow,PV.nm,num]
 refine loop_EC (X:=Nat) (fun i=>⟨envOf [(0,.own 900),(1,.val (num ((k+4*i:Nat):Int))),(5,.val (num i))],memOf [(900,.row 146 4 ((mkU mkReport 4 l k i).map rvReport))]⟩) (fun i=>i≤l.length) (fun i=>l.length - i) 0 (Le.mk _ _ ?_ ?_) (Nat.zero_le _) ?_
 · simp [upd,num,PV.kill]
 · simp [mkU_zero]
 · intro i hi
   have hml:=mkU_len mkReport 4 l k i hi
   by_cases h1:i < l.length
   · have hmi:i < (mkU mkReport 4 l k i).length:=by omega
     have hset:=mkU_set mkReport 4 l k i h1
     refine markq_Report ((mkU mkReport 4 l k i).map rvReport) (k+4*i) i (num (mkU mkReport 4 l k i)[i].id) (num (mkU mkReport 4 l k i)[i].born) (num (mkU mkReport 4 l k i)[i].tries) (tx (mkU mkReport 4 l k i)[i].body) (by simpa using hmi) (by omega) (by simp;omega) (by simp [List.getElem?_eq_getElem hmi,rvReport]) (fun st' q0 q1 q5 qm=>?_)
     simp
     refine LoopNext.mk (i+1) h1 (by omega) (Le.mk _ _ ?_ ?_)
     · simp [q0,q1,q5,num]
       omega
     · rw [← List.map_set,hset] at qm
       simp [qm]
   · have e:i=l.length:=by omega
     subst e
     unfold ir97_l6
     simp [num,hml,mkU_all,mkL_len]
theorem g_toEntryS_own2 (l:List LEntry) (hx:l.length≤1048576):CallOK Tryz.prog 39 [.val (.list 3 (l.map rvEntry))] (.ret (.own 0) [⟨83,3,l.map rvEntry⟩]) []:=by
 refine call_mk (mk:=fun i=>.own i) mixed ok39 rfl (fun _=>rfl) ?_
 unfold ir39
 rw [evalC_intro]
 have hl:l.length≤1048576:=hx
 simp [initSt,avPVs,avPV,avBoxesL,avBoxes,num,vals?]
 refine ⟨by omega,by omega,?_⟩
 refine loop_EC (X:=Nat) (fun i=>⟨envOf [(0,.val (.list 3 (l.map rvEntry))),(3,.own 7),(4,.val (num i))],memOf [(7,.row 83 3 (upTo rvEntry (.agg [.int .i64 0,.int .i64 0,.int .i64 0]) l i))]⟩) (fun i=>i≤l.length) (fun i=>l.length - i) 0 (Le.mk _ _ ?_ ?_) ?_ ?_
 · simp [upd,num,PV.kill]
 · simp [upd,num,bs,upTo_zero]
 · simp
 · intro i hi
   have hlen:=upTo_len rvEntry (.agg [.int .i64 0,.int .i64 0,.int .i64 0]) l i hi
   simp [num,vals?]
   refine iteP_intro (fun h1=>?_) (fun h1=>?_)
   · have e1:(l.map rvEntry)[i]?.getD .nilptr=rvEntry l[i]:=by simp [List.getElem?_eq_getElem h1]
     have e2:=upTo_at rvEntry (.agg [.int .i64 0,.int .i64 0,.int .i64 0]) l i h1
     have e3:=upTo_set rvEntry (.agg [.int .i64 0,.int .i64 0,.int .i64 0]) l i h1
     have e4:(upTo rvEntry (.agg [.int .i64 0,.int .i64 0,.int .i64 0]) l i)[i]'(by omega)=(.agg [.int .i64 0,.int .i64 0,.int .i64 0]):=by
      have h9:=e2
      rw [List.getElem?_eq_getElem (show i < (upTo rvEntry (.agg [.int .i64 0,.int .i64 0,.int .i64 0]) l i).length by omega)] at h9
      exact h9
     simp [num,h1,e1,rvEntry,tx,hlen,vals?]
     refine callS_val rfl rfl (.inl rfl) (g_toEntry l[i] trivial) ?_
     simp [num,h1,e1,e2,rvEntry,tx,hlen,vals?]
     refine LoopNext.mk (i+1) (by omega) (by omega) (Le.mk _ _ ?_ ?_)
     · simp [num];exact wrap_i64 (by omega) (by omega)
     · rw [← e3]
       simp [rvEntry,num,tx,e4]
   · have e1:i=l.length:=by omega
     subst e1
     simp [num,upTo_all,frzOf,PV.pl]
theorem markq_Entry {K:Kx (PExit→St→Prop)} (xs:List RV) (k i:Nat) (a0 a1 a2:RV) (hi:i < xs.length) (hk:k < 549755813888) (hl:xs.length < 1099511627776) (hx:xs[i]?.getD .nilptr=.agg [a0,a1,a2])
 (hn:∀ st':St,st'.env 0=.own 900→st'.env 1=.val (num ((k+3:Nat):Int))→st'.env 5=.val (num ((i+1:Nat):Int))→st'.mem 900=.row 83 3 (xs.set i (rvEntry (mkEntry k)))→K.k .normal st') :
 EC Tryz.prog ir20_l6 ⟨envOf [(0,.own 900),(1,.val (num k)),(5,.val (num i))],memOf [(900,.row 83 3 xs)]⟩ (K:=K):=by
 unfold ir20_l6
 have s1:IntKind.i64.wrap ((k:Int)+1)=(k:Int)+1:=wrap_i64 (by omega) (by omega)
 have s2:IntKind.i64.wrap ((k:Int)+1+1)=(k:Int)+1+1:=wrap_i64 (by omega) (by omega)
 have c1:((k+1:Nat):Int)=(k:Int)+1:=by omega
 have s3:IntKind.i64.wrap ((k:Int)+1+1+1)=(k:Int)+1+1+1:=wrap_i64 (by omega) (by omega)
 have c2:((k+2:Nat):Int)=(k:Int)+1+1:=by omega
 have si:IntKind.i64.wrap ((i:Int)+1)=(i:Int)+1:=wrap_i64 (by omega) (by omega)
 have hx':xs[i]=.agg [a0,a1,a2]:=by rw [← hx];simp [List.getElem?_eq_getElem hi]
 simp [num,hi,hx,s1,s2,s3]
 refine hn _ ?_ ?_ ?_ ?_
 · simp
 · simp only [evalC_skip,evalC_reg,evalC_draw,evalC_seq,evalC_cond,evalC_block,evalC_exit,evalC_ret,then_normal,then_exit,then_ret,then_pan,inBlock_normal,inBlock_ret,inBlock_pan,inBlock_exit,condS_bool,evalOps_nil,evalOps_cons,evalX_nil,evalX_cons,guardS_none,guardS_some,setD_some,setD_none,ev_t,ev_k,Option.getD_some,Option.getD_none,stepE_mov,stepE_pick,stepE_alloc,stepE_box,stepE_build,stepE_store,stepE_app,stepE_nilck,stepE_bin,stepE_eqb,stepE_eqs,stepE_un,stepE_conv,stepE_faddr,stepE_fld,stepE_load,stepE_iaddr,stepE_idx,stepE_slc,stepE_ext,stepE_lens,stepE_len,stepE_tostr,stepE_mkfn,stepE_ifc,stepE_mn,stepE_mx,stepE_mx4,stepE_mks,stepE_isnil,stepE_lit,stepE_call,stepE_callv,stepX_mov,stepX_nilck,stepX_bin,stepX_eqb,stepX_eqs,stepX_un,stepX_conv,stepX_faddr,stepX_fld,stepX_load,stepX_iaddr,stepX_idx,stepX_slc,stepX_ext,stepX_lens,stepX_len,stepX_tostr,stepX_mkfn,stepX_ifc,stepX_mn,stepX_mx,stepX_mx4,stepX_pick,stepX_build,stepX_lit,stepX_call,stepX_callv,binS_int,binS_str,binI_add,binI_sub,binI_mul,binI_quo,binI_rem,binI_eql,binI_neq,binI_lss,binI_leq,binI_gtr,binI_geq,binStr_add,binStr_eql,binStr_neq,unS_not,unS_neg,upd_app,envOf_nil,envOf_cons,memOf_nil,memOf_cons,RetP_ret,RetP_normal,resP_t,resP_tt,fin_env,frz_val,frz_emp,frz_own,pl_val,pl_emp,kill_val,kill_own,kill_ptr,kill_emp,kill_elt,kill_at,kill_undef,kill_fn,kill_skip,killM_row,killM_box,killM_dead,Kx_k,fillP_nil,fillP_cons,slc_lo,slc_hi,slc_lohi,slcl_lo,slcl_hi,Option.map_some,Option.map_none,iteP_true,iteP_false,onBool_val,onBool_skip,nilck_ptr,nilck_elt,nilck_at,nilck_fn,eqb_val,eqs_val,conv_val,faddr_ptr,faddr_elt,faddr_at,fld_val,fld_agg,load_ptr,loadBox_box,load_elt,loadRow_row,load_at,iaddr_lst,iaddr_own,iaddrRow_row,idx_val,ext_tup,lens_val,len_val,len_emp,len_own,lenRow_row,tostr_val,tostr_emp,tostr_own,tostrRow_row,ifc_val,mn_val,mx_val,mx4_val,lit_some,fn_fn,mks_val,isnil_nilif,isnil_ifc,isnil_emp,isnil_list,isnil_own,isnilRow_row,store_ptrK,storeBox_box,store_eltK,storeRow_row,add_some,app_own,app_emp,appRow_row,addOf_list,addOf_emp,addOf_own,rowOf_row,upd_app,s1,s2,s3,num]
   simp
   try omega
 · simp [num,si]
 · simp [hi,hx,hx']
   try simp [s1,s2,s3,c1,c2,rvEntry,mkEntry,num,tx]
theorem h_markEntryS (l:List LEntry) (k:Nat) (hk:k < 8388608) (hl:l.length≤1048576):CallRow Tryz.prog 20 (.own 0) 83 3 (l.map rvEntry) [.val (num k)] (num ((k+3*l.length:Nat):Int)) ((mkL mkEntry 3 l.length k).map rvEntry):=by
 refine callrow_ok mixed ok20 rfl ?_
 unfold ir20
 rw [evalC_intro]
 simp [initSt,avPVs,avPV,avBoxesL,avBoxes,initRow,PV.nm,num]
 refine loop_EC (X:=Nat) (fun i=>⟨envOf [(0,.own 900),(1,.val (num ((k+3*i:Nat):Int))),(5,.val (num i))],memOf [(900,.row 83 3 ((mkU mkEntry 3 l k i).map rvEntry))]⟩) (fun i=>i≤l.length) (fun i=>l.length - i) 0 (Le.mk _ _ ?_ ?_) (Nat.zero_le _) ?_
 · simp [upd,num,PV.kill]
 · simp [mkU_zero]
 · intro i hi
   have hml:=mkU_len mkEntry 3 l k i hi
   by_cases h1:i < l.length
   · have hmi:i < (mkU mkEntry 3 l k i).length:=by omega
     have hset:=mkU_set mkEntry 3 l k i h1
     refine markq_Entry ((mkU mkEntry 3 l k i).map rvEntry) (k+3*i) i (num (mkU mkEntry 3 l k i)[i].kind) (num (mkU mkEntry 3 l k i)[i].id) (num (mkU mkEntry 3 l k i)[i].at_) (by simpa using hmi) (by omega) (by simp;omega) (by simp [List.getElem?_eq_getElem hmi,rvEntry]) (fun st' q0 q1 q5 qm=>?_)
     simp
     refine LoopNext.mk (i+1) h1 (by omega) (Le.mk _ _ ?_ ?_)
     · simp [q0,q1,q5,num]
       omega
     · rw [← List.map_set,hset] at qm
       simp [qm]
   · have e:i=l.length:=by omega
     subst e
     unfold ir20_l6
     simp [num,hml,mkU_all,mkL_len]
end Go.Proofs
end
section
namespace Go.Proofs
open Go.PW Go.KP
attribute [local simp] RV.cells RV.one PV.cells PV.solid PV.one vals? allVal mkAgg setAt RV.ofCells elems PV.killL
variable [GF]
theorem h_heldEntryS (n k:Nat) (hk:k < 8388608) (hl:n≤1048576):CallOK Tryz.prog 21 [.val (.list 3 ((mkL mkEntry 3 n k).map rvEntry)),.val (num k)] (.ret (.val (num ((k+3*n:Nat):Int))) []) []:=by
 refine call_val mixed ok21 rfl (fun _=>rfl) ?_
 unfold ir21
 rw [evalC_intro]
 have hlen:=mkL_len mkEntry 3 n k
 simp [initSt,avPVs,avPV,avBoxesL,avBoxes,num]
 refine loop_EC (X:=Nat) (fun i=>⟨envOf [(0,.val (.list 3 ((mkL mkEntry 3 n k).map rvEntry))),(1,.val (num ((k+3*i:Nat):Int))),(5,.val (num i))],memOf []⟩) (fun i=>i≤n) (fun i=>n - i) 0 (Le.mk _ _ ?_ ?_) (Nat.zero_le _) ?_
 · simp [upd,num,PV.kill]
 · simp
 · intro i hi
   unfold ir21_l6
   by_cases h1:i < n
   · have hi':i < (mkL mkEntry 3 n k).length:=by omega
     have hat:(mkL mkEntry 3 n k)[i]=mkEntry (k+3*i):=mkL_at h1
     have e1:((mkL mkEntry 3 n k).map rvEntry)[i]?.getD .nilptr=rvEntry (mkEntry (k+3*i)):=by simp [List.getElem?_eq_getElem hi',hat]
     generalize hj:k+3*i=j at *
     have hjj:j < 1099511627776:=by omega
     have s1:IntKind.i64.wrap ((j:Int)+1)=((j+1:Nat):Int):=by rw [wrap_i64 (by omega) (by omega)];omega
     have s2:IntKind.i64.wrap (((j+1:Nat):Int)+1)=((j+2:Nat):Int):=by rw [wrap_i64 (by omega) (by omega)];omega
     have s3:IntKind.i64.wrap (((j+2:Nat):Int)+1)=((j+3:Nat):Int):=by rw [wrap_i64 (by omega) (by omega)];omega
     have si:IntKind.i64.wrap ((i:Int)+1)=((i+1:Nat):Int):=by rw [wrap_i64 (by omega) (by omega)];omega
     have hat2:mkEntry j=⟨(j:Int),((j+1:Nat):Int),((j+2:Nat):Int)⟩:=rfl
     generalize hj1:((j+1:Nat):Int)=j1 at *
     generalize hj2:((j+2:Nat):Int)=j2 at *
     simp [num,mkL_len,h1,e1,hat,hat2,rvEntry,tx,s1,s2,s3,si]
     refine LoopNext.mk (i+1) h1 (by omega) (Le.mk _ _ ?_ ?_)
     · simp [num,s1,s2,s3,si]
       omega
     · simp
   · have e:i=n:=by omega
     subst e
     simp [num,mkL_len]
end Go.Proofs
end
