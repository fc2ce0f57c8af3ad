/- Eb: merged out of KIf, KIg, KIh. -/
import Derived.Test.YtgdapgcjmfeocaaGreatDoorEa
import Derived.Test.YtgdapgcjmfeocaaGreatDoorBa
import Derived.Test.YtgdapgcjmfeocaaGreatDoorCa
import Derived.Test.YtgdapgcjmfeocaaGreatDoorAc
set_option linter.unusedSectionVars false
set_option linter.unusedSimpArgs false
set_option linter.unusedVariables false
set_option maxRecDepth 100000
section
namespace Go.Proofs
open Go.PW Go.KP
attribute [local simp] RV.cells RV.one PV.cells PV.solid PV.one vals? allVal mkAgg setAt RV.ofCells elems PV.killL
variable [GH]
structure IO (st:St) (u:LUrl):Prop where
 e1:st.env 1=.ptr 1 0
 m1:st.mem 1=.box (urlCells u)
section
variable {Ks:Kx (St→Prop)} {kx:Kx (RV→St→Prop)} {st:St} {u:LUrl} {b:Bool}
def ib109 (u:LUrl):Bool:=u.hasF || decide (u.frag=[])
theorem iops109 (h:IO st u) (hb:st.env 108=.val (.bool b)) (hK:∀ st',IO st' u→st'.env 116=.val (.bool (b && ib109 u))→Ks.k st'):EX Tryz.prog ir240_o109 st (Ks:=Ks):=by
 unfold ir240_o109
 have e3:(⟨#[]⟩:ByteArray)=bs []:=rfl
 cases b with
 | false=>
  simp [hb]
  refine hK _ ⟨?_,?_⟩ ?_<;>simp [h.e1,h.m1]
 | true=>
  cases hf:u.hasF with
  | true=>
   simp [hb,h.e1,h.m1,urlCells,tx,num,hf]
   refine hK _ ⟨?_,?_⟩ ?_<;>simp [h.e1,h.m1,ib109,hf]
  | false=>
   simp [hb,h.e1,h.m1,urlCells,tx,num,hf,e3,bs_inj]
   refine hK _ ⟨?_,?_⟩ ?_<;>simp [h.e1,h.m1,ib109,hf]
def ib100 (u:LUrl):Bool:=(u.hasQ || decide (u.query=[])) && ib109 u
theorem iops100 (h:IO st u) (hb:st.env 99=.val (.bool b)) (hK:∀ st',IO st' u→st'.env 116=.val (.bool (b && ib100 u))→Ks.k st'):EX Tryz.prog ir240_o100 st (Ks:=Ks):=by
 unfold ir240_o100
 have e3:(⟨#[]⟩:ByteArray)=bs []:=rfl
 cases b with
 | false=>
  simp [hb]
  refine iops109 (u:=u) (b:=false) ⟨?_,?_⟩ ?_ (fun st' q1 q2=>hK st' q1 (by simpa using q2))<;>simp [h.e1,h.m1]
 | true=>
  cases hq:u.hasQ with
  | true=>
   simp [hb,h.e1,h.m1,urlCells,tx,num,hq]
   refine iops109 (u:=u) (b:=true) ⟨?_,?_⟩ ?_ (fun st' q1 q2=>hK st' q1 (by rw [q2];simp [ib100,hq]))<;>simp [h.e1,h.m1]
  | false=>
   simp [hb,h.e1,h.m1,urlCells,tx,num,hq,e3,bs_inj]
   refine iops109 (u:=u) (b:=decide (u.query=[])) ⟨?_,?_⟩ ?_ (fun st' q1 q2=>hK st' q1 (by rw [q2];simp [ib100,hq]))<;>simp [h.e1,h.m1]
def ib94 (u:LUrl):Bool:=!decide (35∈u.query) && ib100 u
theorem iops94 (h:IO st u) (hb:st.env 93=.val (.bool b)) (hK:∀ st',IO st' u→st'.env 116=.val (.bool (b && ib94 u))→Ks.k st'):EX Tryz.prog ir240_o94 st (Ks:=Ks):=by
 unfold ir240_o94
 have e3:(⟨#[35]⟩:ByteArray)=bs [35]:=rfl
 have e4:(⟨#[47]⟩:ByteArray)=bs [47]:=rfl
 cases b with
 | false=>
  simp [hb]
  refine iops100 (u:=u) (b:=false) ⟨?_,?_⟩ ?_ (fun st' q1 q2=>hK st' q1 (by simpa using q2))<;>simp [h.e1,h.m1]
 | true=>
  simp [hb,h.e1,h.m1,urlCells,tx,num,e3,e4]
  refine callX_val rfl rfl (.inl rfl) (c_Contains u.query 35) ?_
  simp [hb,h.e1,h.m1,urlCells,tx,num]
  refine iops100 (u:=u) (b:=!decide (35∈u.query)) ⟨?_,?_⟩ ?_ (fun st' q1 q2=>hK st' q1 (by rw [q2];simp [ib94]))<;>simp [h.e1,h.m1,bne]
def ib89 (u:LUrl):Bool:=([47]:Tx).isPrefixOf u.path && ib94 u
theorem iops89 (h:IO st u) (hb:st.env 88=.val (.bool b)) (hK:∀ st',IO st' u→st'.env 116=.val (.bool (b && ib89 u))→Ks.k st'):EX Tryz.prog ir240_o89 st (Ks:=Ks):=by
 unfold ir240_o89
 have e3:(⟨#[35]⟩:ByteArray)=bs [35]:=rfl
 have e4:(⟨#[47]⟩:ByteArray)=bs [47]:=rfl
 cases b with
 | false=>
  simp [hb]
  refine iops94 (u:=u) (b:=false) ⟨?_,?_⟩ ?_ (fun st' q1 q2=>hK st' q1 (by simpa using q2))<;>simp [h.e1,h.m1]
 | true=>
  simp [hb,h.e1,h.m1,urlCells,tx,num,e3,e4]
  refine callX_val rfl rfl (.inl rfl) (c_HasPrefix u.path [47]) ?_
  simp [hb,h.e1,h.m1,urlCells,tx,num]
  refine iops94 (u:=u) (b:=([47]:Tx).isPrefixOf u.path) ⟨?_,?_⟩ ?_ (fun st' q1 q2=>hK st' q1 (by rw [q2];simp [ib89]))<;>simp [h.e1,h.m1,bne]
def ib81 (u:LUrl):Bool:=!(u.port == lusual u.scheme) && ib89 u
theorem iops81 (h:IO st u) (hb:st.env 80=.val (.bool b)) (hK:∀ st',IO st' u→st'.env 116=.val (.bool (b && ib81 u))→Ks.k st'):EX Tryz.prog ir240_o81 st (Ks:=Ks):=by
 unfold ir240_o81
 have e3:(⟨#[35]⟩:ByteArray)=bs [35]:=rfl
 have e4:(⟨#[47]⟩:ByteArray)=bs [47]:=rfl
 cases b with
 | false=>
  simp [hb]
  refine iops89 (u:=u) (b:=false) ⟨?_,?_⟩ ?_ (fun st' q1 q2=>hK st' q1 (by simpa using q2))<;>simp [h.e1,h.m1]
 | true=>
  simp [hb,h.e1,h.m1,urlCells,tx,num,e3,e4]
  refine callX_val rfl rfl (.inl rfl) (i_usual u.scheme) ?_
  simp [hb,h.e1,h.m1,urlCells,tx,num]
  refine iops89 (u:=u) (b:=!(u.port == lusual u.scheme)) ⟨?_,?_⟩ ?_ (fun st' q1 q2=>hK st' q1 (by rw [q2];simp [ib81]))<;>simp [h.e1,h.m1,bne]
def ib76 (u:LUrl):Bool:=decide (0≤u.port∧u.port≤65535) && ib81 u
theorem iops76 (h:IO st u) (hb:st.env 75=.val (.bool b)) (hK:∀ st',IO st' u→st'.env 116=.val (.bool (b && ib76 u))→Ks.k st'):EX Tryz.prog ir240_o76 st (Ks:=Ks):=by
 unfold ir240_o76
 have e3:(⟨#[35]⟩:ByteArray)=bs [35]:=rfl
 have e4:(⟨#[47]⟩:ByteArray)=bs [47]:=rfl
 cases b with
 | false=>
  simp [hb]
  refine iops81 (u:=u) (b:=false) ⟨?_,?_⟩ ?_ (fun st' q1 q2=>hK st' q1 (by simpa using q2))<;>simp [h.e1,h.m1]
 | true=>
  simp [hb,h.e1,h.m1,urlCells,tx,num,e3,e4]
  refine callX_val rfl rfl (.inl rfl) (i_within u.port 0 65535) ?_
  simp [hb,h.e1,h.m1,urlCells,tx,num]
  refine iops81 (u:=u) (b:=decide (0≤u.port∧u.port≤65535)) ⟨?_,?_⟩ ?_ (fun st' q1 q2=>hK st' q1 (by rw [q2];simp [ib76]))<;>simp [h.e1,h.m1,bne]
end
def iweb (u:LUrl):Bool:=(!lhasAny u.user [47,63,35,64] && lhost u.host) && ib76 u
theorem iurl_from4 (u:LUrl) (h2:u.user.length < 1048577) (h3:u.host.length < 1048577) (hsh:lshown u.user=true) (st:St) (h:IO st u):EC Tryz.prog ir240_from4 st (K:=⟨RetP [.t 2] (.val (.bool (iweb u)))⟩):=by
 unfold ir240_from4
 have e3:(⟨#[47,63,35,64]⟩:ByteArray)=bs [47,63,35,64]:=rfl
 have hend:∀ b,b=(!lhasAny u.user [47,63,35,64] && lhost u.host)→∀ st',IO st' u→st'.env 116=.val (.bool (b && ib76 u))→RetP [.t 2] (.val (.bool (iweb u))) .ret ⟨upd 2 (st'.env 116) st'.env,st'.mem⟩:=fun b hb st' q1 q2=>by
  rw [q2,hb]
  simp [iweb]
 simp [h.e1,h.m1,urlCells,tx,num,e3]
 refine callX_val rfl rfl (.inl rfl) (c_ContainsAny u.user [47,63,35,64] (by omega) (by simp) hsh (by decide)) ?_
 cases hu:lhasAny u.user [47,63,35,64] with
 | true=>
  simp [h.e1,h.m1,urlCells,tx,num]
  refine iops76 (u:=u) (b:=false) ⟨?_,?_⟩ ?_ (fun st' q1 q2=>?_)
  · simp [h.e1]
  · simp [h.m1]
  · simp
  · simp only [evalC_skip,evalC_reg,evalC_draw,evalC_seq,evalC_cond,evalC_block,evalC_exit,evalC_ret,then_normal,then_exit,then_ret,then_pan,inBlock_normal,inBlock_ret,inBlock_pan,inBlock_exit,condS_bool,evalOps_nil,evalOps_cons,evalX_nil,evalX_cons,guardS_none,guardS_some,setD_some,setD_none,ev_t,ev_k,Option.getD_some,Option.getD_none,stepE_mov,stepE_pick,stepE_alloc,stepE_box,stepE_build,stepE_store,stepE_app,stepE_nilck,stepE_bin,stepE_eqb,stepE_eqs,stepE_un,stepE_conv,stepE_faddr,stepE_fld,stepE_load,stepE_iaddr,stepE_idx,stepE_slc,stepE_ext,stepE_lens,stepE_len,stepE_tostr,stepE_mkfn,stepE_ifc,stepE_mn,stepE_mx,stepE_mx4,stepE_mks,stepE_isnil,stepE_lit,stepE_call,stepE_callv,stepX_mov,stepX_nilck,stepX_bin,stepX_eqb,stepX_eqs,stepX_un,stepX_conv,stepX_faddr,stepX_fld,stepX_load,stepX_iaddr,stepX_idx,stepX_slc,stepX_ext,stepX_lens,stepX_len,stepX_tostr,stepX_mkfn,stepX_ifc,stepX_mn,stepX_mx,stepX_mx4,stepX_pick,stepX_build,stepX_lit,stepX_call,stepX_callv,binS_int,binS_str,binI_add,binI_sub,binI_mul,binI_quo,binI_rem,binI_eql,binI_neq,binI_lss,binI_leq,binI_gtr,binI_geq,binStr_add,binStr_eql,binStr_neq,unS_not,unS_neg,upd_app,envOf_nil,envOf_cons,memOf_nil,memOf_cons,RetP_ret,RetP_normal,resP_t,resP_tt,fin_env,frz_val,frz_emp,frz_own,pl_val,pl_emp,kill_val,kill_own,kill_ptr,kill_emp,kill_elt,kill_at,kill_undef,kill_fn,kill_skip,killM_row,killM_box,killM_dead,Kx_k,fillP_nil,fillP_cons,slc_lo,slc_hi,slc_lohi,slcl_lo,slcl_hi,Option.map_some,Option.map_none,iteP_true,iteP_false,onBool_val,onBool_skip,nilck_ptr,nilck_elt,nilck_at,nilck_fn,eqb_val,eqs_val,conv_val,faddr_ptr,faddr_elt,faddr_at,fld_val,fld_agg,load_ptr,loadBox_box,load_elt,loadRow_row,load_at,iaddr_lst,iaddr_own,iaddrRow_row,idx_val,ext_tup,lens_val,len_val,len_emp,len_own,lenRow_row,tostr_val,tostr_emp,tostr_own,tostrRow_row,ifc_val,mn_val,mx_val,mx4_val,lit_some,fn_fn,mks_val,isnil_nilif,isnil_ifc,isnil_emp,isnil_list,isnil_own,isnilRow_row,store_ptrK,storeBox_box,store_eltK,storeRow_row,add_some,app_own,app_emp,appRow_row,addOf_list,addOf_emp,addOf_own,rowOf_row]
    exact hend false (by rw [hu];rfl) st' q1 q2
 | false=>
  simp [h.e1,h.m1,urlCells,tx,num]
  refine callX_val rfl rfl (.inl rfl) (i_isHost u.host (by omega)) ?_
  simp [h.e1,h.m1,urlCells,tx,num]
  refine iops76 (u:=u) (b:=lhost u.host) ⟨?_,?_⟩ ?_ (fun st' q1 q2=>?_)
  · simp [h.e1]
  · simp [h.m1]
  · simp
  · simp only [evalC_skip,evalC_reg,evalC_draw,evalC_seq,evalC_cond,evalC_block,evalC_exit,evalC_ret,then_normal,then_exit,then_ret,then_pan,inBlock_normal,inBlock_ret,inBlock_pan,inBlock_exit,condS_bool,evalOps_nil,evalOps_cons,evalX_nil,evalX_cons,guardS_none,guardS_some,setD_some,setD_none,ev_t,ev_k,Option.getD_some,Option.getD_none,stepE_mov,stepE_pick,stepE_alloc,stepE_box,stepE_build,stepE_store,stepE_app,stepE_nilck,stepE_bin,stepE_eqb,stepE_eqs,stepE_un,stepE_conv,stepE_faddr,stepE_fld,stepE_load,stepE_iaddr,stepE_idx,stepE_slc,stepE_ext,stepE_lens,stepE_len,stepE_tostr,stepE_mkfn,stepE_ifc,stepE_mn,stepE_mx,stepE_mx4,stepE_mks,stepE_isnil,stepE_lit,stepE_call,stepE_callv,stepX_mov,stepX_nilck,stepX_bin,stepX_eqb,stepX_eqs,stepX_un,stepX_conv,stepX_faddr,stepX_fld,stepX_load,stepX_iaddr,stepX_idx,stepX_slc,stepX_ext,stepX_lens,stepX_len,stepX_tostr,stepX_mkfn,stepX_ifc,stepX_mn,stepX_mx,stepX_mx4,stepX_pick,stepX_build,stepX_lit,stepX_call,stepX_callv,binS_int,binS_str,binI_add,binI_sub,binI_mul,binI_quo,binI_rem,binI_eql,binI_neq,binI_lss,binI_leq,binI_gtr,binI_geq,binStr_add,binStr_eql,binStr_neq,unS_not,unS_neg,upd_app,envOf_nil,envOf_cons,memOf_nil,memOf_cons,RetP_ret,RetP_normal,resP_t,resP_tt,fin_env,frz_val,frz_emp,frz_own,pl_val,pl_emp,kill_val,kill_own,kill_ptr,kill_emp,kill_elt,kill_at,kill_undef,kill_fn,kill_skip,killM_row,killM_box,killM_dead,Kx_k,fillP_nil,fillP_cons,slc_lo,slc_hi,slc_lohi,slcl_lo,slcl_hi,Option.map_some,Option.map_none,iteP_true,iteP_false,onBool_val,onBool_skip,nilck_ptr,nilck_elt,nilck_at,nilck_fn,eqb_val,eqs_val,conv_val,faddr_ptr,faddr_elt,faddr_at,fld_val,fld_agg,load_ptr,loadBox_box,load_elt,loadRow_row,load_at,iaddr_lst,iaddr_own,iaddrRow_row,idx_val,ext_tup,lens_val,len_val,len_emp,len_own,lenRow_row,tostr_val,tostr_emp,tostr_own,tostrRow_row,ifc_val,mn_val,mx_val,mx4_val,lit_some,fn_fn,mks_val,isnil_nilif,isnil_ifc,isnil_emp,isnil_list,isnil_own,isnilRow_row,store_ptrK,storeBox_box,store_eltK,storeRow_row,add_some,app_own,app_emp,appRow_row,addOf_list,addOf_emp,addOf_own,rowOf_row]
    exact hend _ (by rw [hu];simp) st' q1 q2
def iplain (u:LUrl):Bool:=decide (u.user=[]) && decide (u.host=[]) && decide (u.port=0) && decide (u.query=[]) && decide (u.frag=[]) && !u.hasQ && !u.hasF
theorem eqCells_url (u:LUrl):eqCells [0,0,0,2,0,0,0,1,1] (urlRs u) [tx u.scheme,tx [],tx [],num 0,tx u.path,tx [],tx [],.bool false,.bool false]=some (iplain u):=by
 simp only [urlRs,eqCells,eqCell,tx,num,bs_inj,if_true,decide_true]
 unfold iplain
 have e:(u.port == 0)=decide (u.port=0):=by rw [Bool.eq_iff_iff];simp
 rw [e]
 cases decide (u.user=[])<;>cases decide (u.host=[])<;>cases decide (u.port=0)<;>cases decide (u.query=[])<;>cases decide (u.frag=[])<;>cases u.hasQ<;>cases u.hasF<;>rfl
theorem iurl_from3 (u:LUrl) (h2:u.user.length < 1048577) (h3:u.host.length < 1048577) (hsh:lshown u.user=true) (st:St) (h:IO st u):EC Tryz.prog ir240_from3 st (K:=⟨RetP [.t 2] (.val (.bool (if lweb u.scheme then iweb u else iplain u)))⟩):=by
 unfold ir240_from3
 have e3:(⟨#[]⟩:ByteArray)=bs []:=rfl
 simp [h.e1,h.m1,urlCells,tx,num,allVal]
 refine callS_val rfl rfl (.inl rfl) (i_web u) ?_
 cases hw:lweb u.scheme with
 | true=>
  simp
  rw [if_pos rfl]
  refine iurl_from4 u h2 h3 hsh _ ⟨?_,?_⟩<;>simp [h.e1,h.m1]
 | false=>
  rw [if_neg (by simp)]
  have hq:=eqCells_url u
  simp only [urlRs,tx,num] at hq
  simp [h.e1,h.m1,urlCells,tx,num,allVal,e3,hq,onSome]
theorem iurl_from2 (u:LUrl) (h2:u.user.length < 1048577) (h3:u.host.length < 1048577) (h4:u.path.length < 1048577) (hsh:lshown u.user=true) (hsp:lshown u.path=true) (st:St) (h:IO st u):EC Tryz.prog ir240_from2 st (K:=⟨RetP [.t 2] (.val (.bool (!lhasAny u.path [63,35] && if lweb u.scheme then iweb u else iplain u)))⟩):=by
 unfold ir240_from2
 have e3:(⟨#[63,35]⟩:ByteArray)=bs [63,35]:=rfl
 simp [h.e1,h.m1,urlCells,tx,num,e3]
 refine callS_val rfl rfl (.inl rfl) (c_ContainsAny u.path [63,35] (by omega) (by simp) hsp (by decide)) ?_
 cases hp:lhasAny u.path [63,35] with
 | true=>simp
 | false=>
  simp only [Bool.not_false,Bool.true_and]
  simp
  refine iurl_from3 u h2 h3 hsh _ ⟨?_,?_⟩<;>simp [h.e1,h.m1]
section
variable {Ks:Kx (St→Prop)} {kx:Kx (RV→St→Prop)} {st:St} {u:LUrl} {b:Bool}
structure Tiny (u:LUrl):Prop where
 s1:u.scheme.length < 1048577
 s2:u.user.length < 1048577
 s3:u.host.length < 1048577
 s4:u.path.length < 1048577
 s5:u.query.length < 1048577
 s6:u.frag.length < 1048577
 p0:-9223372036854775808≤u.port
 p1:u.port≤9223372036854775807
theorem Tiny.small (h:Tiny u):u.Small:=by
 obtain ⟨s1,s2,s3,s4,s5,s6,p0,p1⟩:=h
 exact ⟨by omega,by omega,by omega,by omega,by omega,by omega,p1⟩
def ib36 (u:LUrl):Bool:=!lshown (u.user++u.host++u.path++u.query++u.frag)
theorem iops36 (hs:Tiny u) (h:IO st u) (hb:st.env 35=.val (.bool b)) (hK:∀ st',IO st' u→st'.env 52=.val (.bool (b || ib36 u))→Ks.k st'):EO Tryz.prog ir240_o36 st (Ks:=Ks) (kx:=kx):=by
 unfold ir240_o36
 obtain ⟨s1,s2,s3,s4,s5,s6,p0,p1⟩:=hs
 cases b with
 | true=>
  simp [hb]
  refine hK _ ⟨?_,?_⟩ ?_<;>simp [h.e1,h.m1]
 | false=>
  simp [hb,h.e1,h.m1,urlCells,tx,num,bs_size,bs_append]
  refine ⟨by omega,by omega,by omega,by omega,?_⟩
  refine callS_val rfl rfl (.inl rfl) (i_areShown (u.user++(u.host++(u.path++(u.query++u.frag)))) (by simp;omega)) ?_
  simp [hb]
  refine hK _ ⟨?_,?_⟩ ?_<;>simp [h.e1,h.m1,ib36]
def ib30 (u:LUrl):Bool:=decide (100 < (itext u).length) || ib36 u
theorem iops30 (hs:Tiny u) (h:IO st u) (hb:st.env 29=.val (.bool b)) (hK:∀ st',IO st' u→st'.env 52=.val (.bool (b || ib30 u))→Ks.k st'):EO Tryz.prog ir240_o30 st (Ks:=Ks) (kx:=kx):=by
 unfold ir240_o30
 cases b with
 | true=>
  simp [hb]
  refine iops36 (u:=u) (b:=true) hs ⟨?_,?_⟩ ?_ (fun st' q1 q2=>hK st' q1 (by simpa using q2))<;>simp [h.e1,h.m1]
 | false=>
  have e:((100:Int) < ((itext u).length:Int))↔100 < (itext u).length:=by omega
  simp [hb,h.e1,h.m1,urlCells,tx,num,allVal]
  refine callS_val rfl rfl (.inl rfl) (i_text u hs.small hs.p0) ?_
  simp [hb,tx,bs_size,e]
  refine iops36 (u:=u) (b:=decide (100 < (itext u).length)) hs ⟨?_,?_⟩ ?_ (fun st' q1 q2=>hK st' q1 (by rw [q2];simp [ib30]))<;>simp [h.e1,h.m1]
end
theorem iurlOK_parts (u:LUrl):iurlOK u=(lscheme u.scheme && decide (u.user.length+u.host.length+u.path.length+u.query.length+u.frag.length≤100) && !ib30 u && (!lhasAny u.path [63,35] && if lweb u.scheme then iweb u else iplain u)):=by
 unfold iurlOK ib30 ib36 iweb iplain ib76 ib81 ib89 ib94 ib100 ib109
 have e1:decide ((itext u).length≤100)=!decide (100 < (itext u).length):=by
  by_cases h:(itext u).length≤100
  · rw [decide_eq_true h,decide_eq_false (by omega)];rfl
  · rw [decide_eq_false h,decide_eq_true (by omega)];rfl
 have e2:([47]:Tx).isPrefixOf u.path=(decide (0 < u.path.length) && decide ((u.path.getD 0 0).toNat=47)):=by
  cases u.path with
  | nil=>rfl
  | cons c r=>
   rw [Bool.eq_iff_iff]
   simp
   constructor
   · intro h;rw [← h];rfl
   · intro h;exact (UInt8.toNat_inj.1 (by rw [h];rfl)).symm
 have e3:(u.port == lusual u.scheme)=decide (u.port=lusual u.scheme):=by rw [Bool.eq_iff_iff];simp
 have e4:decide (u.port≠lusual u.scheme)=!decide (u.port=lusual u.scheme):=by simp
 have e5:lhasAny u.query [35]=decide (35∈u.query):=by
  rw [Bool.eq_iff_iff]
  simp [lhasAny]
 rw [e1,e2,e3,e4,e5]
 cases lscheme u.scheme<;>simp only [Bool.false_and,Bool.true_and]
 cases decide (u.user.length+u.host.length+u.path.length+u.query.length+u.frag.length≤100)<;>simp only [Bool.false_and,Bool.true_and]
 cases decide (100 < (itext u).length)<;>simp only [Bool.false_and,Bool.true_and,Bool.not_true,Bool.not_false,Bool.true_or,Bool.false_or]
 cases lshown (u.user++u.host++u.path++u.query++u.frag)<;>simp only [Bool.false_and,Bool.true_and,Bool.not_true,Bool.not_false]
 cases lhasAny u.path [63,35]<;>simp only [Bool.false_and,Bool.true_and,Bool.not_true,Bool.not_false]
 split
 · simp only [Bool.and_assoc]
 · rfl
def usum (u:LUrl):Nat:=u.user.length+u.host.length+u.path.length+u.query.length+u.frag.length
def utail (u:LUrl):Bool:=!lhasAny u.path [63,35] && if lweb u.scheme then iweb u else iplain u
theorem iurl_end (u:LUrl) (hs:Tiny u) (b:Bool) (st':St) (q1:IO st' u) (q2:st'.env 52=.val (.bool (b || ib30 u))) (res:Bool) (hres:res=(!(b || ib30 u) && utail u)) :
 CD (st'.env 52) (A:=⟨EC Tryz.prog (.seq (.reg [⟨some 2,.mov (.k (.val (.bool false))),none⟩]) .ret) st' (K:=⟨fun e st'=>ET e st' (Ks:=⟨fun st'=>EC Tryz.prog ir240_from2 st' (K:=⟨RetP [.t 2] (.val (.bool res))⟩)⟩) (K:=⟨RetP [.t 2] (.val (.bool res))⟩)⟩)⟩)
     (B:=⟨EC Tryz.prog .skip st' (K:=⟨fun e st'=>ET e st' (Ks:=⟨fun st'=>EC Tryz.prog ir240_from2 st' (K:=⟨RetP [.t 2] (.val (.bool res))⟩)⟩) (K:=⟨RetP [.t 2] (.val (.bool res))⟩)⟩)⟩):=by
 rw [q2]
 cases hbb:(b || ib30 u) with
 | true=>
  rw [hbb] at hres
  have:res=false:=hres
  subst this
  simp
 | false=>
  rw [hbb] at hres
  have:res=utail u:=hres
  subst this
  simp only [evalC_skip,evalC_reg,evalC_draw,evalC_seq,evalC_cond,evalC_block,evalC_exit,evalC_ret,then_normal,then_exit,then_ret,then_pan,inBlock_normal,inBlock_ret,inBlock_pan,inBlock_exit,condS_bool,evalOps_nil,evalOps_cons,evalX_nil,evalX_cons,guardS_none,guardS_some,setD_some,setD_none,ev_t,ev_k,Option.getD_some,Option.getD_none,stepE_mov,stepE_pick,stepE_alloc,stepE_box,stepE_build,stepE_store,stepE_app,stepE_nilck,stepE_bin,stepE_eqb,stepE_eqs,stepE_un,stepE_conv,stepE_faddr,stepE_fld,stepE_load,stepE_iaddr,stepE_idx,stepE_slc,stepE_ext,stepE_lens,stepE_len,stepE_tostr,stepE_mkfn,stepE_ifc,stepE_mn,stepE_mx,stepE_mx4,stepE_mks,stepE_isnil,stepE_lit,stepE_call,stepE_callv,stepX_mov,stepX_nilck,stepX_bin,stepX_eqb,stepX_eqs,stepX_un,stepX_conv,stepX_faddr,stepX_fld,stepX_load,stepX_iaddr,stepX_idx,stepX_slc,stepX_ext,stepX_lens,stepX_len,stepX_tostr,stepX_mkfn,stepX_ifc,stepX_mn,stepX_mx,stepX_mx4,stepX_pick,stepX_build,stepX_lit,stepX_call,stepX_callv,binS_int,binS_str,binI_add,binI_sub,binI_mul,binI_quo,binI_rem,binI_eql,binI_neq,binI_lss,binI_leq,binI_gtr,binI_geq,binStr_add,binStr_eql,binStr_neq,unS_not,unS_neg,upd_app,envOf_nil,envOf_cons,memOf_nil,memOf_cons,RetP_ret,RetP_normal,resP_t,resP_tt,fin_env,frz_val,frz_emp,frz_own,pl_val,pl_emp,kill_val,kill_own,kill_ptr,kill_emp,kill_elt,kill_at,kill_undef,kill_fn,kill_skip,killM_row,killM_box,killM_dead,Kx_k,fillP_nil,fillP_cons,slc_lo,slc_hi,slc_lohi,slcl_lo,slcl_hi,Option.map_some,Option.map_none,iteP_true,iteP_false,onBool_val,onBool_skip,nilck_ptr,nilck_elt,nilck_at,nilck_fn,eqb_val,eqs_val,conv_val,faddr_ptr,faddr_elt,faddr_at,fld_val,fld_agg,load_ptr,loadBox_box,load_elt,loadRow_row,load_at,iaddr_lst,iaddr_own,iaddrRow_row,idx_val,ext_tup,lens_val,len_val,len_emp,len_own,lenRow_row,tostr_val,tostr_emp,tostr_own,tostrRow_row,ifc_val,mn_val,mx_val,mx4_val,lit_some,fn_fn,mks_val,isnil_nilif,isnil_ifc,isnil_emp,isnil_list,isnil_own,isnilRow_row,store_ptrK,storeBox_box,store_eltK,storeRow_row,add_some,app_own,app_emp,appRow_row,addOf_list,addOf_emp,addOf_own,rowOf_row]
  refine iteP_intro (fun h=>by cases h) (fun _=>?_)
  simp only [evalC_skip,evalC_reg,evalC_draw,evalC_seq,evalC_cond,evalC_block,evalC_exit,evalC_ret,then_normal,then_exit,then_ret,then_pan,inBlock_normal,inBlock_ret,inBlock_pan,inBlock_exit,condS_bool,evalOps_nil,evalOps_cons,evalX_nil,evalX_cons,guardS_none,guardS_some,setD_some,setD_none,ev_t,ev_k,Option.getD_some,Option.getD_none,stepE_mov,stepE_pick,stepE_alloc,stepE_box,stepE_build,stepE_store,stepE_app,stepE_nilck,stepE_bin,stepE_eqb,stepE_eqs,stepE_un,stepE_conv,stepE_faddr,stepE_fld,stepE_load,stepE_iaddr,stepE_idx,stepE_slc,stepE_ext,stepE_lens,stepE_len,stepE_tostr,stepE_mkfn,stepE_ifc,stepE_mn,stepE_mx,stepE_mx4,stepE_mks,stepE_isnil,stepE_lit,stepE_call,stepE_callv,stepX_mov,stepX_nilck,stepX_bin,stepX_eqb,stepX_eqs,stepX_un,stepX_conv,stepX_faddr,stepX_fld,stepX_load,stepX_iaddr,stepX_idx,stepX_slc,stepX_ext,stepX_lens,stepX_len,stepX_tostr,stepX_mkfn,stepX_ifc,stepX_mn,stepX_mx,stepX_mx4,stepX_pick,stepX_build,stepX_lit,stepX_call,stepX_callv,binS_int,binS_str,binI_add,binI_sub,binI_mul,binI_quo,binI_rem,binI_eql,binI_neq,binI_lss,binI_leq,binI_gtr,binI_geq,binStr_add,binStr_eql,binStr_neq,unS_not,unS_neg,upd_app,envOf_nil,envOf_cons,memOf_nil,memOf_cons,RetP_ret,RetP_normal,resP_t,resP_tt,fin_env,frz_val,frz_emp,frz_own,pl_val,pl_emp,kill_val,kill_own,kill_ptr,kill_emp,kill_elt,kill_at,kill_undef,kill_fn,kill_skip,killM_row,killM_box,killM_dead,Kx_k,fillP_nil,fillP_cons,slc_lo,slc_hi,slc_lohi,slcl_lo,slcl_hi,Option.map_some,Option.map_none,iteP_true,iteP_false,onBool_val,onBool_skip,nilck_ptr,nilck_elt,nilck_at,nilck_fn,eqb_val,eqs_val,conv_val,faddr_ptr,faddr_elt,faddr_at,fld_val,fld_agg,load_ptr,loadBox_box,load_elt,loadRow_row,load_at,iaddr_lst,iaddr_own,iaddrRow_row,idx_val,ext_tup,lens_val,len_val,len_emp,len_own,lenRow_row,tostr_val,tostr_emp,tostr_own,tostrRow_row,ifc_val,mn_val,mx_val,mx4_val,lit_some,fn_fn,mks_val,isnil_nilif,isnil_ifc,isnil_emp,isnil_list,isnil_own,isnilRow_row,store_ptrK,storeBox_box,store_eltK,storeRow_row,add_some,app_own,app_emp,appRow_row,addOf_list,addOf_emp,addOf_own,rowOf_row]
  have h30:ib30 u=false:=(Bool.or_eq_false_iff.1 hbb).2
  have h36:ib36 u=false:=(Bool.or_eq_false_iff.1 h30).2
  unfold ib36 at h36
  have hsh:lshown (u.user++u.host++u.path++u.query++u.frag)=true:=by simpa using h36
  simp only [lshown_append,Bool.and_eq_true] at hsh
  exact iurl_from2 u hs.s2 hs.s3 hs.s4 hsh.1.1.1.1 hsh.1.1.2 st' q1
theorem i_UrlOK (u:LUrl) (hs:Tiny u):CallOK Tryz.prog 240 [.val (rvUrl u)] (.ret (.val (.bool (lurlOK u))) []) []:=by
 refine call_val mixed ok240 rfl (fun _=>rfl) ?_
 unfold ir240
 rw [evalC_intro]
 have hs':=hs
 obtain ⟨s1,s2,s3,s4,s5,s6,p0,p1⟩:=hs
 have hres:lurlOK u=(!((!lscheme u.scheme || decide (100 < usum u)) || ib30 u) && utail u):=by
  rw [← iurlOK_eq,iurlOK_parts]
  have e1:decide (u.user.length+u.host.length+u.path.length+u.query.length+u.frag.length≤100)=!decide (100 < usum u):=by
   unfold usum
   by_cases h:u.user.length+u.host.length+u.path.length+u.query.length+u.frag.length≤100
   · rw [decide_eq_true h,decide_eq_false (by omega)];rfl
   · rw [decide_eq_false h,decide_eq_true (by omega)];rfl
  rw [e1]
  unfold utail
  cases lscheme u.scheme<;>cases decide (100 < usum u)<;>cases ib30 u<;>rfl
 simp [initSt,avPVs,avPV,avBoxesL,avBoxes,rvUrl,tx,num,bs_size]
 refine callS_val rfl rfl (.inl rfl) (i_isScheme u.scheme (by omega)) ?_
 cases b1:lscheme u.scheme with
 | false=>
  rw [b1] at hres
  simp [tx,num,bs_size]
  refine iops30 (u:=u) (b:=true) hs' ⟨?_,?_⟩ ?_ (fun st' q1 q2=>iurl_end u hs' true st' q1 q2 _ hres)
  · simp
  · simp [urlCells,tx,num]
  · simp
 | true=>
  rw [b1] at hres
  have w1:IntKind.i64.wrap ((u.user.length:Int)+u.host.length)=(u.user.length:Int)+u.host.length:=wrap_i64 (by omega) (by omega)
  have w2:IntKind.i64.wrap ((u.user.length:Int)+u.host.length+u.path.length)=(u.user.length:Int)+u.host.length+u.path.length:=wrap_i64 (by omega) (by omega)
  have w3:IntKind.i64.wrap ((u.user.length:Int)+u.host.length+u.path.length+u.query.length)=(u.user.length:Int)+u.host.length+u.path.length+u.query.length:=wrap_i64 (by omega) (by omega)
  have w4:IntKind.i64.wrap ((u.user.length:Int)+u.host.length+u.path.length+u.query.length+u.frag.length)=(u.user.length:Int)+u.host.length+u.path.length+u.query.length+u.frag.length:=wrap_i64 (by omega) (by omega)
  have e:decide ((100:Int) < (u.user.length:Int)+u.host.length+u.path.length+u.query.length+u.frag.length)=decide (100 < usum u):=by
   unfold usum
   by_cases h:100 < u.user.length+u.host.length+u.path.length+u.query.length+u.frag.length
   · rw [decide_eq_true h,decide_eq_true (by omega)]
   · rw [decide_eq_false h,decide_eq_false (by omega)]
  simp [tx,num,bs_size,w1,w2,w3,w4,e]
  refine iops30 (u:=u) (b:=decide (100 < usum u)) hs' ⟨?_,?_⟩ ?_ (fun st' q1 q2=>iurl_end u hs' _ st' q1 q2 _ (by rw [hres];rfl))
  · simp
  · simp [urlCells,tx,num]
  · simp
end Go.Proofs
end
section
namespace Go.Proofs
open Go.PW Go.KP
attribute [local simp] RV.cells RV.one PV.cells PV.solid PV.one vals? allVal mkAgg setAt RV.ofCells elems PV.killL
variable [GH]
structure IP (st:St) (u:LUrl):Prop where
 e2:st.env 2=.ptr 2 0
 e7:st.env 7=.ptr 7 0
 m2:st.mem 2=.box (urlCells LUrl.zero)
 m7:st.mem 7=.box (urlCells u)
theorem iparse_from15 (u:LUrl) (hs:Tiny u) (st:St) (h:IP st u):EC Tryz.prog ir226_from15 st (K:=prs (u,lurlOK u)):=by
 unfold ir226_from15
 obtain ⟨e2,e7,m2,m7⟩:=h
 simp [e2,e7,m2,m7,urlCells,allVal,tx,num]
 refine callX_val rfl rfl (.inl rfl) (i_UrlOK u hs) ?_
 simp [e2,e7,m2,m7,urlCells,allVal,tx,num]
 refine resP_url (id:=2) ?_ ?_ ?_
 · simp [e2]
 · simp [e2,urlCells,tx,num]
 · simp
theorem iparse_from14 (sc us ho pa qu fr:Tx) (po:Int) (hq hf:Bool) (hs:Tiny ⟨sc,us,llow ho,po,pa,qu,fr,hq,hf⟩) (hh:ho.length < 1048577) (st:St) (h:IP st ⟨sc,us,[],po,pa,qu,fr,hq,hf⟩) (e12:st.env 12=.val (tx ho)) :
 EC Tryz.prog ir226_from14 st (K:=prs (⟨sc,us,llow ho,po,pa,qu,fr,hq,hf⟩,lurlOK ⟨sc,us,llow ho,po,pa,qu,fr,hq,hf⟩)):=by
 unfold ir226_from14
 obtain ⟨e2,e7,m2,m7⟩:=h
 simp [e2,e7,m2,m7,e12,urlCells,allVal,tx,num]
 refine callS_val rfl rfl (.inl rfl) (i_lower ho (by omega)) ?_
 simp [e2,e7,m2,m7,urlCells,allVal,tx,num]
 refine iparse_from15 ⟨sc,us,llow ho,po,pa,qu,fr,hq,hf⟩ hs _ ⟨?_,?_,?_,?_⟩<;>simp [e2,e7,m2,m7,urlCells,tx,num]
theorem iparse_from13 (sc us pa qu fr:Tx) (hq hf:Bool) (h1:sc.length < 1048577) (h2:us.length < 1048577) (h3:pa.length < 1048577) (h4:qu.length < 1048577) (h5:fr.length < 1048577) (r:Tx) (hr:r.length < 1048577) (st:St)
 (h:IP st ⟨sc,us,[],0,pa,qu,fr,hq,hf⟩) (e12:st.env 12=.val (tx (lcutA r 58))) (e13:st.env 13=.val (tx (lcutB r 58))) (e6:st.env 6=.val (.bool (decide (58∈r)))) :
 EC Tryz.prog ir226_from13 st (K:=prs (portEnd ⟨sc,us,llow (lcutA r 58),0,pa,qu,fr,hq,hf⟩ r)):=by
 unfold ir226_from13
 obtain ⟨e2,e7,m2,m7⟩:=h
 have hla:=lcutA_len r 58
 have hlb:=lcutB_len r 58
 have hll:(llow (lcutA r 58)).length < 1048577:=by simp [llow];omega
 by_cases hc:58∈r
 · simp [e6,e13,hc,tx]
   have hn:=i_number (lcutB r 58) (by omega)
   refine callS_two rfl rfl (.inl rfl) hn ?_
   cases hb:(inum (lcutB r 58)).2 with
   | false=>
    have hnone:=inum_none hb
    rw [show portEnd ⟨sc,us,llow (lcutA r 58),0,pa,qu,fr,hq,hf⟩ r=(LUrl.zero,false) by simp only [portEnd,lport,hc,hnone,if_true]]
    simp [e2,e7,m2,m7,tx,num,urlCells]
    refine parse_none _ ?_ ?_ ?_
    · simp [e2]
    · simp [urlCells,LUrl.zero,tx,num,bs]
    · simp
   | true=>
    have hsome:=inum_le hb
    generalize (inum (lcutB r 58)).1=n at *
    simp [e2,e7,m2,m7,tx,num,urlCells]
    refine callS_val rfl rfl (.inl rfl) (i_within n 1 65535) ?_
    by_cases hin:1≤n∧n≤65535
    · rw [decide_eq_true hin]
      simp [e2,e7,m2,m7,tx,num,urlCells]
      refine callS_val rfl rfl (.inl rfl) (i_usual sc) ?_
      by_cases hu:n=lusual sc
      · have hl:lport sc r=some 0:=by
         simp only [lport,hc,hsome,hin,if_true,and_self]
         rw [if_pos hu]
        rw [show portEnd ⟨sc,us,llow (lcutA r 58),0,pa,qu,fr,hq,hf⟩ r=(⟨sc,us,llow (lcutA r 58),0,pa,qu,fr,hq,hf⟩,lurlOK ⟨sc,us,llow (lcutA r 58),0,pa,qu,fr,hq,hf⟩) by simp only [portEnd,hl]]
        simp [e2,e7,m2,m7,tx,num,urlCells,hu]
        refine iparse_from14 sc us (lcutA r 58) pa qu fr 0 hq hf ⟨h1,h2,hll,h3,h4,h5,by simp,by simp⟩ (by omega) _ ⟨?_,?_,?_,?_⟩ ?_<;>simp [e2,e7,m2,m7,e12,urlCells,tx,num]
      · have hl:lport sc r=some n:=by
         simp only [lport,hc,hsome,hin,if_true,and_self]
         rw [if_neg hu]
        rw [show portEnd ⟨sc,us,llow (lcutA r 58),0,pa,qu,fr,hq,hf⟩ r=(⟨sc,us,llow (lcutA r 58),n,pa,qu,fr,hq,hf⟩,lurlOK ⟨sc,us,llow (lcutA r 58),n,pa,qu,fr,hq,hf⟩) by simp only [portEnd,hl]]
        simp [e2,e7,m2,m7,tx,num,urlCells,hu]
        refine iparse_from14 sc us (lcutA r 58) pa qu fr n hq hf ⟨h1,h2,hll,h3,h4,h5,by show _≤n;omega,by show n≤_;omega⟩ (by omega) _ ⟨?_,?_,?_,?_⟩ ?_<;>simp [e2,e7,m2,m7,e12,urlCells,tx,num]
    · rw [decide_eq_false hin]
      rw [show portEnd ⟨sc,us,llow (lcutA r 58),0,pa,qu,fr,hq,hf⟩ r=(LUrl.zero,false) by simp only [portEnd,lport,hc,hsome,hin,if_true,if_false]]
      simp [e2,e7,m2,m7,tx,num,urlCells]
      refine parse_none _ ?_ ?_ ?_
      · simp [e2]
      · simp [urlCells,LUrl.zero,tx,num,bs]
      · simp
 · have hl:lport sc r=some 0:=by simp only [lport,hc,if_false]
   rw [show portEnd ⟨sc,us,llow (lcutA r 58),0,pa,qu,fr,hq,hf⟩ r=(⟨sc,us,llow (lcutA r 58),0,pa,qu,fr,hq,hf⟩,lurlOK ⟨sc,us,llow (lcutA r 58),0,pa,qu,fr,hq,hf⟩) by simp only [portEnd,hl]]
   simp [e6,hc]
   refine iparse_from14 sc us (lcutA r 58) pa qu fr 0 hq hf ⟨h1,h2,hll,h3,h4,h5,by simp,by simp⟩ (by omega) _ ⟨?_,?_,?_,?_⟩ ?_<;>simp [e2,e7,m2,m7,e12,urlCells,tx,num]
theorem iparse_from12 (sc us pa qu fr:Tx) (hq hf:Bool) (h1:sc.length < 1048577) (h2:us.length < 1048577) (h3:pa.length < 1048577) (h4:qu.length < 1048577) (h5:fr.length < 1048577) (r:Tx) (hr:r.length < 1048577) (st:St)
 (h:IP st ⟨sc,us,[],0,pa,qu,fr,hq,hf⟩) (e5:st.env 5=.val (tx r)) :
 EC Tryz.prog ir226_from12 st (K:=prs (portEnd ⟨sc,us,llow (lcutA r 58),0,pa,qu,fr,hq,hf⟩ r)):=by
 unfold ir226_from12
 obtain ⟨e2,e7,m2,m7⟩:=h
 have q1:(⟨#[58]⟩:ByteArray)=bs [58]:=rfl
 simp [e5,tx,q1]
 refine callS_three rfl rfl (.inl rfl) (c_Cut r 58 (by omega)) ?_
 simp [e5,tx]
 refine iparse_from13 sc us pa qu fr hq hf h1 h2 h3 h4 h5 r hr _ ⟨?_,?_,?_,?_⟩ ?_ ?_ ?_<;>simp [e2,e7,m2,m7,urlCells,tx,num]
theorem iparse_from11 (sc pa qu fr:Tx) (hq hf:Bool) (h1:sc.length < 1048577) (h3:pa.length < 1048577) (h4:qu.length < 1048577) (h5:fr.length < 1048577) (r:Tx) (hr:r.length < 1048577) (st:St)
 (h:IP st ⟨sc,[],[],0,pa,qu,fr,hq,hf⟩) (e5:st.env 5=.val (tx r)) :
 EC Tryz.prog ir226_from11 st (K:=prs (userEnd sc pa qu fr hq hf r)):=by
 unfold ir226_from11
 obtain ⟨e2,e7,m2,m7⟩:=h
 have q1:(⟨#[64]⟩:ByteArray)=bs [64]:=rfl
 have hla:=lcutA_len r 64
 have hlb:=lcutB_len r 64
 simp [e5,tx,q1]
 refine callS_three rfl rfl (.inl rfl) (c_Cut r 64 (by omega)) ?_
 unfold userEnd
 by_cases hc:64∈r
 · have e:(if 64∈r then lcutB r 64 else r)=lcutB r 64:=if_pos hc
   rw [if_pos hc,e]
   simp [e5,tx,hc,e2,e7,m2,m7,urlCells,num]
   refine iparse_from12 sc (lcutA r 64) pa qu fr hq hf h1 (by omega) h3 h4 h5 (lcutB r 64) (by omega) _ ⟨?_,?_,?_,?_⟩ ?_<;>simp [e2,e7,m2,m7,urlCells,tx,num]
 · have e:(if 64∈r then lcutB r 64 else r)=r:=if_neg hc
   rw [if_neg hc,e]
   simp [e5,tx,hc]
   refine iparse_from12 sc [] pa qu fr hq hf h1 (by simp) h3 h4 h5 r hr _ ⟨?_,?_,?_,?_⟩ ?_<;>simp [e2,e7,m2,m7,e5,urlCells,tx,num]
theorem iparse_from10 (sc qu fr:Tx) (hq hf:Bool) (h1:sc.length < 1048577) (h4:qu.length < 1048577) (h5:fr.length < 1048577) (r:Tx) (hr:r.length < 1048577) (st:St)
 (h:IP st ⟨sc,[],[],0,[47],qu,fr,hq,hf⟩) (e5:st.env 5=.val (tx r)) :
 EC Tryz.prog ir226_from10 st (K:=prs (pathEnd sc qu fr hq hf r)):=by
 unfold ir226_from10
 obtain ⟨e2,e7,m2,m7⟩:=h
 have hle:=lfind_le r 47
 have hla:=lcutA_len r 47
 simp [e5,tx]
 refine callS_val rfl rfl (.inl rfl) (c_IndexByte r 47) ?_
 unfold pathEnd
 by_cases hc:47∈r
 · rw [if_pos hc]
   simp [e5,tx,num,hc,e2,e7,m2,m7,urlCells,bs_size,bs_extract,hle,drop_len]
   refine iparse_from11 sc (r.drop (lfind r 47)) qu fr hq hf h1 (by simp;omega) h4 h5 (lcutA r 47) (by omega) _ ⟨?_,?_,?_,?_⟩ ?_<;>simp [e2,e7,m2,m7,urlCells,tx,num,lcutA]
 · rw [if_neg hc]
   simp [e5,tx,num,hc]
   rw [lcutA_none hc]
   refine iparse_from11 sc [47] qu fr hq hf h1 (by simp) h4 h5 r hr _ ⟨?_,?_,?_,?_⟩ ?_<;>simp [e2,e7,m2,m7,e5,urlCells,tx,num]
theorem iparse_from7 (sc:Tx) (h1:sc.length < 1048577) (r:Tx) (hr:r.length < 1048577) (st:St) (h:IP st ⟨sc,[],[],0,[],[],[],false,false⟩) (e5:st.env 5=.val (tx r)) :
 EC Tryz.prog ir226_from7 st (K:=prs (lweb1 sc r)):=by
 unfold ir226_from7
 obtain ⟨e2,e7,m2,m7⟩:=h
 have q1:(⟨#[35]⟩:ByteArray)=bs [35]:=rfl
 have q2:(⟨#[63]⟩:ByteArray)=bs [63]:=rfl
 have q3:(⟨#[47]⟩:ByteArray)=bs [47]:=rfl
 have e:lweb1 sc r=pathEnd sc (lcutB (lcutA r 35) 63) (lcutB r 35) (decide (63∈lcutA r 35)) (decide (35∈r)) (lcutA (lcutA r 35) 63):=rfl
 have hl1:=lcutA_len r 35
 have hl2:=lcutB_len r 35
 have hl3:=lcutA_len (lcutA r 35) 63
 have hl4:=lcutB_len (lcutA r 35) 63
 rw [e]
 simp [e5,tx,q1]
 refine callS_three rfl rfl (.inl rfl) (c_Cut r 35 (by omega)) ?_
 simp [e5,tx,q2,e2,e7,m2,m7,urlCells,num]
 refine callS_three rfl rfl (.inl rfl) (c_Cut (lcutA r 35) 63 (by omega)) ?_
 simp [e5,tx,q3,e2,e7,m2,m7,urlCells,num]
 refine iparse_from10 sc (lcutB (lcutA r 35) 63) (lcutB r 35) _ _ h1 (by omega) (by omega) (lcutA (lcutA r 35) 63) (by omega) _ ⟨?_,?_,?_,?_⟩ ?_<;>simp [e2,e7,m2,m7,urlCells,tx,num]
theorem prefix2 (r:Tx):([47,47]:Tx).isPrefixOf r=decide (r.take 2=[47,47]):=by
 match r with
 | []=>rfl
 | [a]=>simp [List.isPrefixOf]
 | a :: b :: r=>
  rw [Bool.eq_iff_iff]
  simp [List.isPrefixOf]
  constructor
  · rintro ⟨rfl,rfl⟩;exact ⟨rfl,rfl⟩
  · rintro ⟨rfl,rfl⟩;exact ⟨rfl,rfl⟩
theorem iparse_from4 (sc:Tx) (h1:sc.length < 1048577) (r:Tx) (hr:r.length < 1048577) (st:St)
 (h:IP st ⟨sc,[],[],0,[],[],[],false,false⟩) (e5:st.env 5=.val (tx r)):EC Tryz.prog ir226_from4 st (K:=prs (if lweb sc then if r.take 2=[47,47] then lweb1 sc (r.drop 2) else (LUrl.zero,false) else (⟨sc,[],[],0,lcutA (lcutA r 35) 63,[],[],false,false⟩,lurlOK ⟨sc,[],[],0,lcutA (lcutA r 35) 63,[],[],false,false⟩))):=by
 unfold ir226_from4
 obtain ⟨e2,e7,m2,m7⟩:=h
 have q1:(⟨#[35]⟩:ByteArray)=bs [35]:=rfl
 have q2:(⟨#[63]⟩:ByteArray)=bs [63]:=rfl
 have q3:(⟨#[47,47]⟩:ByteArray)=bs [47,47]:=rfl
 have hl1:=lcutA_len r 35
 have hl3:=lcutA_len (lcutA r 35) 63
 simp [e2,e7,m2,m7,tx,num,urlCells,allVal]
 refine callS_val rfl rfl (.inl rfl) (i_web ⟨sc,[],[],0,[],[],[],false,false⟩) ?_
 by_cases hw:lweb sc=true
 · rw [if_pos hw]
   simp [e5,tx,hw,q3]
   refine callS_two rfl rfl (.inl rfl) (c_CutPrefix r [47,47]) ?_
   rw [prefix2]
   by_cases ht:r.take 2=[47,47]
   · rw [if_pos ht]
     simp [tx,ht]
     refine iparse_from7 sc h1 (r.drop 2) (by simp;omega) _ ⟨?_,?_,?_,?_⟩ ?_<;>simp [e2,e7,m2,m7,urlCells,tx,num]
   · rw [if_neg ht]
     simp [e2,e7,m2,m7,tx,num,urlCells,ht]
     refine parse_none _ ?_ ?_ ?_
     · simp [e2]
     · simp [urlCells,LUrl.zero,tx,num,bs]
     · simp
 · rw [if_neg hw]
   simp [e5,tx,hw,q1]
   refine callS_three rfl rfl (.inl rfl) (c_Cut r 35 (by omega)) ?_
   simp [tx,hw,q2]
   refine callS_three rfl rfl (.inl rfl) (c_Cut (lcutA r 35) 63 (by omega)) ?_
   simp [e2,e7,m2,m7,tx,num,urlCells,allVal]
   refine callX_val rfl rfl (.inl rfl) (i_UrlOK ⟨sc,[],[],0,lcutA (lcutA r 35) 63,[],[],false,false⟩ ⟨h1,by simp,by simp,by show (lcutA (lcutA r 35) 63).length < _;omega,by simp,by simp,by simp,by simp⟩) ?_
   simp [e2,e7,m2,m7,tx,num,urlCells,allVal]
   refine resP_url (id:=2) ?_ ?_ ?_
   · simp [e2]
   · simp [urlCells,tx,num]
   · simp
theorem i_parse (t:Tx) (ht:t.length < 1048577):CallOK Tryz.prog 226 [.val (tx t)] (.ret (parseRes (lparse t)) []) []:=by
 refine call_val mixed ok226 rfl (fun _=>rfl) ?_
 unfold ir226
 rw [evalC_intro]
 have q1:(⟨#[58]⟩:ByteArray)=bs [58]:=rfl
 have hla:=lcutA_len t 58
 have hlb:=lcutB_len t 58
 simp [initSt,avPVs,avPV,avBoxesL,avBoxes,tx,num,q1]
 refine callS_three rfl rfl (.inl rfl) (c_Cut t 58 (by omega)) ?_
 simp [tx,num]
 refine callS_val rfl rfl (.inl rfl) (i_lower (lcutA t 58) (by omega)) ?_
 by_cases hc:58∈t
 · rw [show lparse t=(if lweb (llow (lcutA t 58)) then if (lcutB t 58).take 2=[47,47] then lweb1 (llow (lcutA t 58)) ((lcutB t 58).drop 2) else (LUrl.zero,false) else (⟨llow (lcutA t 58),[],[],0,lcutA (lcutA (lcutB t 58) 35) 63,[],[],false,false⟩,lurlOK ⟨llow (lcutA t 58),[],[],0,lcutA (lcutA (lcutB t 58) 35) 63,[],[],false,false⟩)) by unfold lparse;rw [if_pos hc]]
   simp [tx,num,hc]
   refine iparse_from4 (llow (lcutA t 58)) (by simp [llow];omega) (lcutB t 58) (by omega) _ ⟨?_,?_,?_,?_⟩ ?_<;>simp [urlCells,tx,num,LUrl.zero,bs]
 · rw [show lparse t=(LUrl.zero,false) by unfold lparse;rw [if_neg hc]]
   simp [tx,num,hc]
   refine parse_none _ ?_ ?_ ?_
   · simp
   · simp [urlCells,LUrl.zero,tx,num,bs]
   · simp
end Go.Proofs
end
section
namespace Go.Proofs
open Go.PW Go.KP
attribute [local simp] RV.cells RV.one PV.cells PV.solid PV.one vals? allVal mkAgg setAt RV.ofCells elems PV.killL
variable [GH]
theorem tiny_of {u:LUrl} (h:u.Tiny):Tiny u:=⟨h.1,h.2.1,h.2.2.1,h.2.2.2.1,h.2.2.2.2.1,h.2.2.2.2.2.1,by have:=h.2.2.2.2.2.2;omega,by have:=h.2.2.2.2.2.2;omega⟩
def codeRes (r:LUrl×Int):PV:=.tup [.val (rvUrl r.1),.val (num r.2)]
theorem resP_code {st:St} {s t id:Nat} {u:LUrl} {n:Int} (h1:st.env s=.ptr id 0) (h2:st.mem id=.box (urlCells u)) (h5:st.env t=.val (num n)):resP [.c s true 9,.t t] st.fin=some (codeRes (u,n)):=by
 rw [resP_ct (n:=9) (rs:=urlRs u) h1 (by rw [h2,urlCells_eq]) rfl (by omega) h5,mkAgg_url]
 rfl
def iparseUrl (t:Tx):LUrl×Int:=if t.length≤65536 then if (lparse t).2 then ((lparse t).1,0) else (LUrl.zero,3) else (LUrl.zero,2)
theorem i_ParseUrl (t:Tx) (ht:t.length < 1048577):CallOK Tryz.prog 200 [.val (tx t)] (.ret (codeRes (iparseUrl t)) []) []:=by
 refine call_val mixed ok200 rfl (fun _=>rfl) ?_
 unfold ir200
 rw [evalC_intro]
 unfold iparseUrl
 simp [initSt,avPVs,avPV,avBoxesL,avBoxes,tx]
 refine callS_val rfl rfl (.inl rfl) (i_long t) ?_
 by_cases hl:t.length≤65536
 · rw [if_pos hl,if_pos hl]
   simp [tx,num]
   refine callS_two rfl rfl (.inl rfl) (i_parse t ht) ?_
   cases hok:(lparse t).2 with
   | true=>
    rw [if_pos rfl]
    simp [tx,num,rvUrl,allVal]
    refine resP_code (id:=2) ?_ ?_ ?_
    · simp
    · simp [urlCells,tx,num]
    · simp [num]
   | false=>
    rw [if_neg (by simp)]
    simp [tx,num,rvUrl,allVal]
    refine resP_code (id:=2) ?_ ?_ ?_
    · simp
    · simp [urlCells,LUrl.zero,tx,num,bs]
    · simp [num]
 · rw [if_neg hl,if_neg hl]
   simp [tx,num]
   refine resP_code (id:=2) ?_ ?_ ?_
   · simp
   · simp [urlCells,LUrl.zero,tx,num,bs]
   · simp [num]
theorem clean_from4 (u:LUrl) (hs:Tiny u) (st:St) (e4:st.env 4=.ptr 4 0) (m4:st.mem 4=.box (urlCells { u with frag:=[],hasF:=false })):EC Tryz.prog ir164_from4 st (K:=⟨RetP [.t 2,.t 3] (cleanRes (some (itext { u with frag:=[],hasF:=false })))⟩):=by
 unfold ir164_from4
 obtain ⟨s1,s2,s3,s4,s5,s6,p0,p1⟩:=hs
 have ht:Tiny { u with frag:=[],hasF:=false }:=⟨s1,s2,s3,s4,s5,by simp,p0,p1⟩
 simp [e4,m4,urlCells,tx,num,allVal]
 refine callS_val rfl rfl (.inl rfl) (i_text { u with frag:=[],hasF:=false } ht.small p0) ?_
 simp [cleanRes]
theorem i_clean (t:Tx) (ht:t.length < 1048577):CallOK Tryz.prog 164 [.val (tx t)] (.ret (cleanRes (iclean t)) []) []:=by
 refine call_val mixed ok164 rfl (fun _=>rfl) ?_
 unfold ir164
 rw [evalC_intro]
 have htn:=tiny_of (lparse_tiny ht)
 have hpu:=i_ParseUrl t ht
 by_cases hl:t.length≤65536
 · cases hok:(lparse t).2 with
   | false=>
    have e1:iclean t=none:=by unfold iclean;rw [if_pos hl,hok];rfl
    have e2:iparseUrl t=(LUrl.zero,3):=by unfold iparseUrl;rw [if_pos hl,hok];rfl
    rw [e1]
    rw [e2] at hpu
    simp [initSt,avPVs,avPV,avBoxesL,avBoxes,tx]
    refine callS_two rfl rfl (.inl rfl) hpu ?_
    simp [tx,num,rvUrl,allVal,cleanRes,bs]
   | true=>
    have e2:iparseUrl t=((lparse t).1,0):=by unfold iparseUrl;rw [if_pos hl,hok];rfl
    rw [e2] at hpu
    cases hw:lweb (lparse t).1.scheme with
    | false=>
     have e1:iclean t=none:=by unfold iclean;rw [if_pos hl,hok,hw];rfl
     rw [e1]
     simp [initSt,avPVs,avPV,avBoxesL,avBoxes,tx]
     refine callS_two rfl rfl (.inl rfl) hpu ?_
     simp [tx,num,rvUrl,allVal]
     refine callS_val rfl rfl (.inl rfl) (i_web (lparse t).1) ?_
     rw [hw]
     simp [tx,num,cleanRes,bs]
    | true=>
     have e1:iclean t=some (itext { (lparse t).1 with frag:=[],hasF:=false }):=by unfold iclean;rw [if_pos hl,hok,hw];rfl
     rw [e1]
     simp [initSt,avPVs,avPV,avBoxesL,avBoxes,tx]
     refine callS_two rfl rfl (.inl rfl) hpu ?_
     simp [tx,num,rvUrl,allVal]
     refine callS_val rfl rfl (.inl rfl) (i_web (lparse t).1) ?_
     rw [hw]
     simp [tx,num]
     refine clean_from4 (lparse t).1 htn _ ?_ ?_<;>simp [urlCells,tx,num,bs]
 · have e1:iclean t=none:=by unfold iclean;rw [if_neg hl]
   have e2:iparseUrl t=(LUrl.zero,2):=by unfold iparseUrl;rw [if_neg hl]
   rw [e1]
   rw [e2] at hpu
   simp [initSt,avPVs,avPV,avBoxesL,avBoxes,tx]
   refine callS_two rfl rfl (.inl rfl) hpu ?_
   simp [tx,num,rvUrl,allVal,cleanRes,bs]
structure JT (st:St) (x:LTarget):Prop where
 e1:st.env 1=.ptr 1 0
 m1:st.mem 1=.box [.val (tx x.url),.val (num x.prio),.val (num x.weight)]
theorem jops18 {Ks:Kx (St→Prop)} {kx:Kx (RV→St→Prop)} {st:St} {x:LTarget} {b:Bool} (h:JT st x) (hb:st.env 17=.val (.bool b)) (hK:∀ st',st'.env 2=.val (.bool (b && (decide (1≤x.prio∧x.prio≤9) && decide (1≤x.weight∧x.weight≤9))))→Ks.k st'):EO Tryz.prog ir169_o18 st (Ks:=Ks) (kx:=kx):=by
 unfold ir169_o18
 cases b with
 | false=>
  simp [hb]
  exact hK _ (by simp)
 | true=>
  simp [hb,h.e1,h.m1,num]
  refine callS_val rfl rfl (.inl rfl) (i_within x.prio 1 9) ?_
  cases hp:decide (1≤x.prio∧x.prio≤9) with
  | false=>
   simp
   exact hK _ (by simp [hp])
  | true=>
   simp [h.e1,h.m1,num]
   refine callS_val rfl rfl (.inl rfl) (i_within x.weight 1 9) ?_
   simp
   exact hK _ (by rw [hp];simp)
theorem i_targetOK (x:LTarget) (hx:x.url.length < 1048577):CallOK Tryz.prog 169 [.val (rvTarget x)] (.ret (.val (.bool (ltargetOK x))) []) []:=by
 refine call_val mixed ok169 rfl (fun _=>rfl) ?_
 unfold ir169
 rw [evalC_intro,← itargetOK_eq,Bool.and_assoc]
 simp [initSt,avPVs,avPV,avBoxesL,avBoxes,rvTarget,tx,num]
 refine callS_two rfl rfl (.inl rfl) (i_clean x.url hx) ?_
 cases hc:iclean x.url with
 | none=>
  simp
  refine jops18 (x:=x) (b:=false) ⟨?_,?_⟩ ?_ (fun st' q=>?_)
  · simp
  · simp [tx,num]
  · simp
  · simp [q]
 | some u=>
  simp [tx,bs_inj]
  refine jops18 (x:=x) (b:=decide (u=x.url)) ⟨?_,?_⟩ ?_ (fun st' q=>?_)
  · simp
  · simp [tx,num]
  · simp
  · simp [q]
theorem i_hasUrl1 (x:LTarget) (url:Tx):CallOK Tryz.prog 228 [.val (rvTarget x),.box [tx url]] (.ret (.val (.bool (decide (x.url=url)))) []) [[tx url]]:=by
 refine call_valB mixed ok228 rfl (fun _=>rfl) ?_
 unfold ir228
 rw [evalC_intro]
 simp [initSt,avPVs,avPV,avBoxesL,avBoxes,rvTarget,tx,num,bs_inj,RetB_ret,BoxesAt]
theorem targets_at {l:List LTarget} {j:Nat} (h:j < l.length):(l.map rvTarget)[j]?.getD .nilptr=rvTarget l[j]:=by simp [List.getElem?_eq_getElem h]
theorem i_IndexFuncT (l:List LTarget) (g:Nat) (c:RV) (p:LTarget→Bool) (hl:l.length < 1099511627776) (hg:fnB Tryz.prog g=true)
 (hp:∀ x∈l,CallOK Tryz.prog g [.val (rvTarget x),.box [c]] (.ret (.val (.bool (p x))) []) [[c]]) :
 CallOK Tryz.prog 205 [.val (.list 3 (l.map rvTarget)),.fn g [.box [c]]] (.ret (.val (num (lidx l p))) []) [[c]]:=by
 refine call_valB mixed ok205 rfl (fun _=>rfl) ?_
 unfold ir205
 rw [evalC_intro]
 simp [initSt,avPVs,avPV,avBoxesL,avBoxes,avPV,avPVs]
 refine loop_EC (X:=Nat) (fun i=>⟨envOf [(0,.val (.list 3 (l.map rvTarget))),(1,.fn g [.ptr 900 0]),(7,.val (num l.length)),(8,.val (num i))],memOf [(900,.box [.val c])]⟩) (fun i=>i≤l.length∧∀ k (hk:k < i) (hk':k < l.length),p l[k]=false) (fun i=>l.length - i) 0 (Le.mk _ _ ?_ ?_) ?_ ?_
 · simp [upd,num]
 · simp
 · simp
 · rintro i ⟨hi,hne⟩
   simp [num]
   refine iteP_intro (fun h1=>?_) (fun h1=>?_)
   · have e1:=targets_at h1
     simp [num,h1,e1,rvTarget,tx,hg]
     refine callS_valB (ids:=[900]) rfl rfl (by simp) (by decide) (by simp [SameB,evalC_skip,evalC_reg,evalC_draw,evalC_seq,evalC_cond,evalC_block,evalC_exit,evalC_ret,then_normal,then_exit,then_ret,then_pan,inBlock_normal,inBlock_ret,inBlock_pan,inBlock_exit,condS_bool,evalOps_nil,evalOps_cons,evalX_nil,evalX_cons,guardS_none,guardS_some,setD_some,setD_none,ev_t,ev_k,Option.getD_some,Option.getD_none,stepE_mov,stepE_pick,stepE_alloc,stepE_box,stepE_build,stepE_store,stepE_app,stepE_nilck,stepE_bin,stepE_eqb,stepE_eqs,stepE_un,stepE_conv,stepE_faddr,stepE_fld,stepE_load,stepE_iaddr,stepE_idx,stepE_slc,stepE_ext,stepE_lens,stepE_len,stepE_tostr,stepE_mkfn,stepE_ifc,stepE_mn,stepE_mx,stepE_mx4,stepE_mks,stepE_isnil,stepE_lit,stepE_call,stepE_callv,stepX_mov,stepX_nilck,stepX_bin,stepX_eqb,stepX_eqs,stepX_un,stepX_conv,stepX_faddr,stepX_fld,stepX_load,stepX_iaddr,stepX_idx,stepX_slc,stepX_ext,stepX_lens,stepX_len,stepX_tostr,stepX_mkfn,stepX_ifc,stepX_mn,stepX_mx,stepX_mx4,stepX_pick,stepX_build,stepX_lit,stepX_call,stepX_callv,binS_int,binS_str,binI_add,binI_sub,binI_mul,binI_quo,binI_rem,binI_eql,binI_neq,binI_lss,binI_leq,binI_gtr,binI_geq,binStr_add,binStr_eql,binStr_neq,unS_not,unS_neg,upd_app,envOf_nil,envOf_cons,memOf_nil,memOf_cons,RetP_ret,RetP_normal,resP_t,resP_tt,fin_env,frz_val,frz_emp,frz_own,pl_val,pl_emp,kill_val,kill_own,kill_ptr,kill_emp,kill_elt,kill_at,kill_undef,kill_fn,kill_skip,killM_row,killM_box,killM_dead,Kx_k,fillP_nil,fillP_cons,slc_lo,slc_hi,slc_lohi,slcl_lo,slcl_hi,Option.map_some,Option.map_none,iteP_true,iteP_false,onBool_val,onBool_skip,nilck_ptr,nilck_elt,nilck_at,nilck_fn,eqb_val,eqs_val,conv_val,faddr_ptr,faddr_elt,faddr_at,fld_val,fld_agg,load_ptr,loadBox_box,load_elt,loadRow_row,load_at,iaddr_lst,iaddr_own,iaddrRow_row,idx_val,ext_tup,lens_val,len_val,len_emp,len_own,lenRow_row,tostr_val,tostr_emp,tostr_own,tostrRow_row,ifc_val,mn_val,mx_val,mx4_val,lit_some,fn_fn,mks_val,isnil_nilif,isnil_ifc,isnil_emp,isnil_list,isnil_own,isnilRow_row,store_ptrK,storeBox_box,store_eltK,storeRow_row,add_some,app_own,app_emp,appRow_row,addOf_list,addOf_emp,addOf_own,rowOf_row]) rfl (hp l[i] (List.getElem_mem h1)) ?_
     cases hpi:p l[i] with
     | true=>
      simp [RetB_ret,BoxesAt]
      rw [lidx_hit h1 hpi (fun k hk=>hne k hk (by omega))];rfl
     | false=>
      simp
      refine LoopNext.mk (i+1) ⟨by omega,fun k hk hk'=>?_⟩ (by omega) (Le.mk _ _ ?_ ?_)
      · by_cases e:k=i
        · subst e;exact hpi
        · exact hne k (by omega) hk'
      · simp [num];exact wrap_i64 (by omega) (by omega)
      · simp
   · have e:i=l.length:=by omega
     subst e
     simp [num,RetB_ret,BoxesAt]
     rw [lidx_none (fun k hk=>hne k hk hk)]
theorem i_ContainsFuncT (l:List LTarget) (g:Nat) (c:RV) (p:LTarget→Bool) (hl:l.length < 1099511627776) (hg:fnB Tryz.prog g=true)
 (hp:∀ x∈l,CallOK Tryz.prog g [.val (rvTarget x),.box [c]] (.ret (.val (.bool (p x))) []) [[c]]) :
 CallOK Tryz.prog 167 [.val (.list 3 (l.map rvTarget)),.fn g [.box [c]]] (.ret (.val (.bool (l.any p))) []) [[c]]:=by
 refine call_valB mixed ok167 rfl (fun _=>rfl) ?_
 unfold ir167
 rw [evalC_intro]
 simp [initSt,avPVs,avPV,avBoxesL,avBoxes,avPV,avPVs]
 refine callS_valB (ids:=[900]) rfl rfl (by simp) (by decide) (by simp [SameB,evalC_skip,evalC_reg,evalC_draw,evalC_seq,evalC_cond,evalC_block,evalC_exit,evalC_ret,then_normal,then_exit,then_ret,then_pan,inBlock_normal,inBlock_ret,inBlock_pan,inBlock_exit,condS_bool,evalOps_nil,evalOps_cons,evalX_nil,evalX_cons,guardS_none,guardS_some,setD_some,setD_none,ev_t,ev_k,Option.getD_some,Option.getD_none,stepE_mov,stepE_pick,stepE_alloc,stepE_box,stepE_build,stepE_store,stepE_app,stepE_nilck,stepE_bin,stepE_eqb,stepE_eqs,stepE_un,stepE_conv,stepE_faddr,stepE_fld,stepE_load,stepE_iaddr,stepE_idx,stepE_slc,stepE_ext,stepE_lens,stepE_len,stepE_tostr,stepE_mkfn,stepE_ifc,stepE_mn,stepE_mx,stepE_mx4,stepE_mks,stepE_isnil,stepE_lit,stepE_call,stepE_callv,stepX_mov,stepX_nilck,stepX_bin,stepX_eqb,stepX_eqs,stepX_un,stepX_conv,stepX_faddr,stepX_fld,stepX_load,stepX_iaddr,stepX_idx,stepX_slc,stepX_ext,stepX_lens,stepX_len,stepX_tostr,stepX_mkfn,stepX_ifc,stepX_mn,stepX_mx,stepX_mx4,stepX_pick,stepX_build,stepX_lit,stepX_call,stepX_callv,binS_int,binS_str,binI_add,binI_sub,binI_mul,binI_quo,binI_rem,binI_eql,binI_neq,binI_lss,binI_leq,binI_gtr,binI_geq,binStr_add,binStr_eql,binStr_neq,unS_not,unS_neg,upd_app,envOf_nil,envOf_cons,memOf_nil,memOf_cons,RetP_ret,RetP_normal,resP_t,resP_tt,fin_env,frz_val,frz_emp,frz_own,pl_val,pl_emp,kill_val,kill_own,kill_ptr,kill_emp,kill_elt,kill_at,kill_undef,kill_fn,kill_skip,killM_row,killM_box,killM_dead,Kx_k,fillP_nil,fillP_cons,slc_lo,slc_hi,slc_lohi,slcl_lo,slcl_hi,Option.map_some,Option.map_none,iteP_true,iteP_false,onBool_val,onBool_skip,nilck_ptr,nilck_elt,nilck_at,nilck_fn,eqb_val,eqs_val,conv_val,faddr_ptr,faddr_elt,faddr_at,fld_val,fld_agg,load_ptr,loadBox_box,load_elt,loadRow_row,load_at,iaddr_lst,iaddr_own,iaddrRow_row,idx_val,ext_tup,lens_val,len_val,len_emp,len_own,lenRow_row,tostr_val,tostr_emp,tostr_own,tostrRow_row,ifc_val,mn_val,mx_val,mx4_val,lit_some,fn_fn,mks_val,isnil_nilif,isnil_ifc,isnil_emp,isnil_list,isnil_own,isnilRow_row,store_ptrK,storeBox_box,store_eltK,storeRow_row,add_some,app_own,app_emp,appRow_row,addOf_list,addOf_emp,addOf_own,rowOf_row]) rfl (i_IndexFuncT l g c p hl hg hp) ?_
 simp [num,RetB_ret,BoxesAt]
 exact lidx_ge l p
theorem i_hasUrl (l:List LTarget) (url:Tx) (hl:l.length < 1099511627776):CallOK Tryz.prog 204 [.val (.list 3 (l.map rvTarget)),.val (tx url)] (.ret (.val (.bool (l.any fun x=>decide (x.url=url)))) []) []:=by
 refine call_val mixed ok204 rfl (fun _=>rfl) ?_
 unfold ir204
 rw [evalC_intro]
 simp [initSt,avPVs,avPV,avBoxesL,avBoxes,tx]
 refine callS_valB (ids:=[3]) rfl rfl (by simp) (by decide) (by simp [SameB,evalC_skip,evalC_reg,evalC_draw,evalC_seq,evalC_cond,evalC_block,evalC_exit,evalC_ret,then_normal,then_exit,then_ret,then_pan,inBlock_normal,inBlock_ret,inBlock_pan,inBlock_exit,condS_bool,evalOps_nil,evalOps_cons,evalX_nil,evalX_cons,guardS_none,guardS_some,setD_some,setD_none,ev_t,ev_k,Option.getD_some,Option.getD_none,stepE_mov,stepE_pick,stepE_alloc,stepE_box,stepE_build,stepE_store,stepE_app,stepE_nilck,stepE_bin,stepE_eqb,stepE_eqs,stepE_un,stepE_conv,stepE_faddr,stepE_fld,stepE_load,stepE_iaddr,stepE_idx,stepE_slc,stepE_ext,stepE_lens,stepE_len,stepE_tostr,stepE_mkfn,stepE_ifc,stepE_mn,stepE_mx,stepE_mx4,stepE_mks,stepE_isnil,stepE_lit,stepE_call,stepE_callv,stepX_mov,stepX_nilck,stepX_bin,stepX_eqb,stepX_eqs,stepX_un,stepX_conv,stepX_faddr,stepX_fld,stepX_load,stepX_iaddr,stepX_idx,stepX_slc,stepX_ext,stepX_lens,stepX_len,stepX_tostr,stepX_mkfn,stepX_ifc,stepX_mn,stepX_mx,stepX_mx4,stepX_pick,stepX_build,stepX_lit,stepX_call,stepX_callv,binS_int,binS_str,binI_add,binI_sub,binI_mul,binI_quo,binI_rem,binI_eql,binI_neq,binI_lss,binI_leq,binI_gtr,binI_geq,binStr_add,binStr_eql,binStr_neq,unS_not,unS_neg,upd_app,envOf_nil,envOf_cons,memOf_nil,memOf_cons,RetP_ret,RetP_normal,resP_t,resP_tt,fin_env,frz_val,frz_emp,frz_own,pl_val,pl_emp,kill_val,kill_own,kill_ptr,kill_emp,kill_elt,kill_at,kill_undef,kill_fn,kill_skip,killM_row,killM_box,killM_dead,Kx_k,fillP_nil,fillP_cons,slc_lo,slc_hi,slc_lohi,slcl_lo,slcl_hi,Option.map_some,Option.map_none,iteP_true,iteP_false,onBool_val,onBool_skip,nilck_ptr,nilck_elt,nilck_at,nilck_fn,eqb_val,eqs_val,conv_val,faddr_ptr,faddr_elt,faddr_at,fld_val,fld_agg,load_ptr,loadBox_box,load_elt,loadRow_row,load_at,iaddr_lst,iaddr_own,iaddrRow_row,idx_val,ext_tup,lens_val,len_val,len_emp,len_own,lenRow_row,tostr_val,tostr_emp,tostr_own,tostrRow_row,ifc_val,mn_val,mx_val,mx4_val,lit_some,fn_fn,mks_val,isnil_nilif,isnil_ifc,isnil_emp,isnil_list,isnil_own,isnilRow_row,store_ptrK,storeBox_box,store_eltK,storeRow_row,add_some,app_own,app_emp,appRow_row,addOf_list,addOf_emp,addOf_own,rowOf_row,tx]) rfl (i_ContainsFuncT l 228 (tx url) (fun x=>decide (x.url=url)) hl (by kernel_rfl) (fun x _=>i_hasUrl1 x url)) ?_
 simp
end Go.Proofs
end
