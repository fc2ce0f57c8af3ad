/- Cb: merged out of KSk, KSm, KSw. -/
import Derived.Test.YtgdapgcjmfeocaaGreatDoorCa
import Derived.Test.YtgdapgcjmfeocaaGreatDoorAc
import Derived.Test.YtgdapgcjmfeocaaGreatDoorBa
set_option linter.unusedSectionVars false
set_option linter.unusedSimpArgs false
set_option linter.unusedVariables false
set_option maxRecDepth 100000
section
namespace Go.Proofs
open Go.PW Go.KP
attribute [local simp] RV.cells RV.one PV.cells PV.solid PV.one vals? allVal mkAgg setAt RV.ofCells elems PV.killL
variable [GF]
theorem c_l03Clean (t:Tx) (ht:t.length < 1099511627776):CallOK Tryz.prog 148 [.val (tx t)] (.ret (cleanRes (lclean t)) []) []:=by
 refine call_val mixed ok148 rfl (fun _=>rfl) ?_
 unfold ir148
 rw [evalC_intro]
 have hsm:=lparse_small ht
 have hp:=c_l01Parse t ht
 unfold lclean
 generalize lparse t=r at *
 obtain ⟨u,b⟩:=r
 simp only at hsm ⊢
 simp [initSt,avPVs,avPV,avBoxesL,avBoxes,tx]
 refine callS_pv rfl rfl (fun _=>rfl) rfl (.inl rfl) hp ?_
 simp [parseRes,rvUrl,tx,num]
 cases b with
 | false=>simp [cleanRes,tx,bs]
 | true=>
  simp
  refine callS_val rfl rfl (.inl rfl) (c_l01Web u.scheme) ?_
  cases hw:lweb u.scheme with
  | false=>simp [cleanRes,tx,bs]
  | true=>
   simp
   have hs2:LUrl.Small { u with frag:=[],hasF:=false }:=⟨hsm.1,hsm.2.1,hsm.2.2.1,hsm.2.2.2.1,hsm.2.2.2.2.1,by simp,hsm.2.2.2.2.2.2⟩
   refine callS_val rfl rfl (.inl rfl) (c_l01Text { u with frag:=[],hasF:=false } hs2) ?_
   simp [cleanRes,tx]
theorem isLow_isRul {c:UInt8} (h:isLow c=true):isRul c=true:=by simp [isRul,h]
theorem c_l04Name (t:Tx) (ht:t.length < 1099511627776):CallOK Tryz.prog 107 [.val (tx t)] (.ret (.val (.bool (lrname t))) []) []:=by
 refine call_val mixed ok107 rfl (fun _=>rfl) ?_
 unfold ir107
 rw [evalC_intro]
 simp [initSt,avPVs,avPV,avBoxesL,avBoxes,tx,bs_size]
 refine callS_val rfl rfl (.inl rfl) (c_l01In .i64 t.length 1 24) ?_
 by_cases hlen:1≤t.length∧t.length≤24
 rotate_left
 · rw [show decide ((1:Int)≤t.length∧(t.length:Int)≤24)=false from decide_eq_false (by omega)]
   have:lrname t=false:=by unfold lrname;rw [decide_eq_false hlen];rfl
   simp [this]
 rw [show decide ((1:Int)≤t.length∧(t.length:Int)≤24)=true from decide_eq_true (by omega)]
 have hw:lrname t=headAll isLow isRul t:=by unfold lrname;rw [decide_eq_true hlen];rfl
 simp
 refine loop_EC (X:=Nat) (fun i=>⟨envOf [(0,.val (.str (bs t))),(3,.val (.int .i64 i))],memOf []⟩) (fun i=>i≤t.length∧headAll isLow isRul (t.take i)=true) (fun i=>t.length - i) 0 (Le.mk _ _ ?_ ?_) ?_ ?_
 · simp [upd]
 · simp
 · simp [headAll]
 · rintro i ⟨hi,hall⟩
   simp [bs_size,byteAt_bs]
   refine iteP_intro (fun h3=>?_) (fun h3=>?_)
   · have hstep:=headAll_succ (p:=isLow) (q:=isRul) (fun _ h=>isLow_isRul h) t i h3
     rw [hall,Bool.true_and] at hstep
     have hbad:=headAll_false (p:=isLow) (q:=isRul) t i h3
     have e1:((t[i].toNat:Int) < 97)↔t[i].toNat < 97:=by omega
     have e2:((122:Int) < t[i].toNat)↔122 < t[i].toNat:=by omega
     have e3:((t[i].toNat:Int)=45)↔t[i].toNat=45:=by omega
     have hgood:(if i=0 then isLow t[i] else isRul t[i])=true→∀ st':St,st'.env 0=.val (.str (bs t))→st'.env 3=.val (.int .i64 (IntKind.i64.wrap ((i:Int)+1))) →
      ∃ x',(x'≤t.length∧headAll isLow isRul (t.take x')=true)∧t.length - x' < t.length - i∧Le st' ⟨envOf [(0,.val (.str (bs t))),(3,.val (.int .i64 (x':Int)))],memOf []⟩:=fun hg st' q1 q2=>by
      refine ⟨i+1,⟨by omega,by rw [hstep,hg]⟩,by omega,Le.mk _ _ ?_ ?_⟩
      · simp [q1,q2];exact wrap_i64 (by omega) (by omega)
      · simp
     have hres:(if i=0 then isLow t[i] else isRul t[i])=false→lrname t=false:=fun h=>by rw [hw];exact hbad h
     by_cases a4:i=0
     · rw [if_pos a4] at hgood hres
       by_cases a1:t[i].toNat < 97
       · have hr:=hres (by simp [isLow];omega)
         by_cases a3:t[i].toNat=45
         · simp [bs_size,byteAt_bs,h3,e1,e3,a1,a3,(eq_true a4:(i=0)=True),hr]
         · simp [bs_size,byteAt_bs,h3,e1,e3,a1,a3,hr]
       · by_cases a2:122 < t[i].toNat
         · have hr:=hres (by simp [isLow];omega)
           have a3:¬ t[i].toNat=45:=by omega
           simp [bs_size,byteAt_bs,h3,e1,e2,e3,a1,a2,a3,hr]
         · simp [bs_size,byteAt_bs,h3,e1,e2,e3,a1,a2]
           exact hgood (by simp [isLow];omega) _ (by simp) (by simp)
     · rw [if_neg a4] at hgood hres
       by_cases a1:t[i].toNat < 97
       · by_cases a3:t[i].toNat=45
         · simp [bs_size,byteAt_bs,h3,e1,e3,a1,a3,a4]
           exact hgood (by simp [isRul,a3]) _ (by simp) (by simp)
         · have hr:=hres (by simp [isRul,isLow,a3];omega)
           simp [bs_size,byteAt_bs,h3,e1,e3,a1,a3,hr]
       · by_cases a2:122 < t[i].toNat
         · have a3:¬ t[i].toNat=45:=by omega
           have hr:=hres (by simp [isRul,isLow,a3];omega)
           simp [bs_size,byteAt_bs,h3,e1,e2,e3,a1,a2,a3,hr]
         · simp [bs_size,byteAt_bs,h3,e1,e2,e3,a1,a2]
           exact hgood (by simp [isRul,isLow];omega) _ (by simp) (by simp)
   · have e:i=t.length:=by omega
     subst e
     rw [List.take_length] at hall
     simp [hw,hall]
theorem c_l04Blank (c:UInt8):CallOK Tryz.prog 147 [.val (rvb c)] (.ret (.val (.bool (decide (c.toNat=32∨c.toNat=9)))) []) []:=by
 refine call_val mixed ok147 rfl (fun _=>rfl) ?_
 unfold ir147
 rw [evalC_intro]
 have e1:((c.toNat:Int)=32)↔c.toNat=32:=by omega
 have e2:((c.toNat:Int)=9)↔c.toNat=9:=by omega
 by_cases h1:c.toNat=32<;>by_cases h2:c.toNat=9<;>simp [initSt,avPVs,avPV,avBoxesL,avBoxes,rvb,e1,e2,h1,h2]
def wordByte (c:UInt8):Bool:=!decide (c.toNat=32∨c.toNat=9∨c.toNat=59)
theorem lwordOK_eq (w:Tx):lwordOK w=(decide (w≠[]) && w.all wordByte):=rfl
theorem c_l04Word (t:Tx) (ht:t.length < 1099511627776):CallOK Tryz.prog 109 [.val (tx t)] (.ret (.val (.bool (lwordOK t))) []) []:=by
 refine call_val mixed ok109 rfl (fun _=>rfl) ?_
 unfold ir109
 rw [evalC_intro]
 simp [initSt,avPVs,avPV,avBoxesL,avBoxes,tx,bs_size]
 refine loop_EC (X:=Nat) (fun i=>⟨envOf [(0,.val (.str (bs t))),(3,.val (.int .i64 i))],memOf []⟩) (fun i=>i≤t.length∧(t.take i).all wordByte=true) (fun i=>t.length - i) 0 (Le.mk _ _ ?_ ?_) ?_ ?_
 · simp [upd]
 · simp
 · simp
 · rintro i ⟨hi,hall⟩
   simp [bs_size,byteAt_bs]
   refine iteP_intro (fun h3=>?_) (fun h3=>?_)
   · have hstep:=all_take_succ t wordByte i h3
     rw [hall,Bool.true_and] at hstep
     have hbad:wordByte t[i]=false→lwordOK t=false:=fun h=>by
      rw [lwordOK_eq]
      have:t.all wordByte=false:=by rw [List.all_eq_false];exact ⟨t[i],List.getElem_mem h3,by simp [h]⟩
      rw [this,Bool.and_false]
     have e3:((t[i].toNat:Int)=59)↔t[i].toNat=59:=by omega
     simp [bs_size,byteAt_bs,h3]
     refine callS_val rfl rfl (.inl rfl) (c_l04Blank t[i]) ?_
     by_cases a1:t[i].toNat=32∨t[i].toNat=9
     · have hb:=hbad (by unfold wordByte;simp;omega)
       rw [decide_eq_true a1]
       simp [hb]
     · rw [decide_eq_false a1]
       by_cases a2:t[i].toNat=59
       · have hb:=hbad (by unfold wordByte;simp;omega)
         simp [bs_size,byteAt_bs,h3,a2,hb]
       · simp [bs_size,byteAt_bs,h3,e3,a2]
         refine LoopNext.mk (i+1) ⟨by omega,by rw [hstep];unfold wordByte;simp;omega⟩ (by omega) (Le.mk _ _ ?_ ?_)
         · simp;exact wrap_i64 (by omega) (by omega)
         · simp
   · have e:i=t.length:=by omega
     subst e
     rw [List.take_length] at hall
     rw [lwordOK_eq,hall,Bool.and_true]
     by_cases h0:t=[]
     · subst h0;simp [bs_size]
     · have:0 < t.length:=List.length_pos_iff.2 h0
       simp [bs_size,h0,this]
theorem c_l04At (l:List LRule) (name:Tx) (hl:l.length < 1099511627776):CallOK Tryz.prog 108 [.val (.list 2 (l.map rvRule)),.val (tx name)] (.ret (.val (num (lidx l fun r=>decide (r.name=name)))) []) []:=by
 refine call_val mixed ok108 rfl (fun _=>rfl) ?_
 unfold ir108
 rw [evalC_intro]
 simp [initSt,avPVs,avPV,avBoxesL,avBoxes,num]
 refine loop_EC (X:=Nat) (fun i=>⟨envOf [(0,.val (.list 2 (l.map rvRule))),(1,.val (tx name)),(5,.val (num i))],memOf []⟩) (fun i=>i≤l.length∧∀ k (hk:k < i) (hk':k < l.length),l[k].name≠name) (fun i=>l.length - i) 0 (Le.mk _ _ ?_ ?_) ?_ ?_
 · simp [upd,num]
 · simp
 · simp
 · rintro i ⟨hi,hne⟩
   simp [num]
   refine iteP_intro (fun h1=>?_) (fun h1=>?_)
   · have e1:(l.map rvRule)[i]?.getD .nilptr=rvRule l[i]:=by simp [List.getElem?_eq_getElem h1]
     simp [num,h1,e1,rvRule,tx,bs_inj]
     by_cases hu:l[i].name=name
     · have hh:lidx l (fun r=>decide (r.name=name))=i:=lidx_hit h1 (by simp [hu]) (fun k hk=>by simp [hne k hk (by omega)])
       simp [hu,hh,num]
     · simp [hu]
       refine LoopNext.mk (i+1) ⟨by omega,fun k hk hk'=>?_⟩ (by omega) (Le.mk _ _ ?_ ?_)
       · by_cases e:k=i
         · subst e;exact hu
         · exact hne k (by omega) hk'
       · simp [num,tx];exact wrap_i64 (by omega) (by omega)
       · simp
   · have e:i=l.length:=by omega
     have hh:lidx l (fun r=>decide (r.name=name))=-1:=lidx_none (fun k hk=>by simp [hne k (by omega) hk])
     simp [hh,num]
theorem c_l01Has (l:List Tx) (t:Tx) (hl:l.length < 1099511627776):CallOK Tryz.prog 149 [.val (.list 1 (l.map tx)),.val (tx t)] (.ret (.val (.bool (decide (t∈l)))) []) []:=by
 refine call_val mixed ok149 rfl (fun _=>rfl) ?_
 unfold ir149
 rw [evalC_intro]
 simp [initSt,avPVs,avPV,avBoxesL,avBoxes,num]
 refine loop_EC (X:=Nat) (fun i=>⟨envOf [(0,.val (.list 1 (l.map tx))),(1,.val (tx t)),(5,.val (num i))],memOf []⟩) (fun i=>i≤l.length∧t∉l.take i) (fun i=>l.length - i) 0 (Le.mk _ _ ?_ ?_) ?_ ?_
 · simp [upd,num]
 · simp
 · simp
 · rintro i ⟨hi,hne⟩
   simp [num]
   refine iteP_intro (fun h1=>?_) (fun h1=>?_)
   · have e1:(l.map tx)[i]?.getD .nilptr=tx l[i]:=by simp [List.getElem?_eq_getElem h1]
     simp [num,h1,e1,tx,bs_inj]
     by_cases hu:l[i]=t
     · have:t∈l:=by rw [← hu];exact List.getElem_mem h1
       simp [hu,this]
     · simp [hu]
       refine LoopNext.mk (i+1) ⟨by omega,?_⟩ (by omega) (Le.mk _ _ ?_ ?_)
       · rw [List.take_add_one,List.getElem?_eq_getElem h1,List.mem_append]
         rintro (e | e)
         · exact hne e
         · exact hu (by simpa using e:t=l[i]).symm
       · simp [num,tx];exact wrap_i64 (by omega) (by omega)
       · simp
   · have e:i=l.length:=by omega
     subst e
     rw [List.take_length] at hne
     simp [hne]
theorem c_l00SameTexts (a b:List Tx) (ha:a.length < 1099511627776) (hb:b.length < 1099511627776):CallOK Tryz.prog 111 [.val (.list 1 (a.map tx)),.val (.list 1 (b.map tx))] (.ret (.val (.bool (decide (a=b)))) []) []:=by
 refine call_val mixed ok111 rfl (fun _=>rfl) ?_
 unfold ir111
 rw [evalC_intro]
 by_cases hlen:a.length=b.length
 rotate_left
 · have h1:¬ (a.length:Int)=b.length:=by omega
   have h2:a≠b:=fun e=>hlen (by rw [e])
   simp [initSt,avPVs,avPV,avBoxesL,avBoxes,h1,h2]
 simp [initSt,avPVs,avPV,avBoxesL,avBoxes,num,hlen]
 refine loop_EC (X:=Nat) (fun i=>⟨envOf [(0,.val (.list 1 (a.map tx))),(1,.val (.list 1 (b.map tx))),(5,.val (num i))],memOf []⟩) (fun i=>i≤a.length∧a.take i=b.take i) (fun i=>a.length - i) 0 (Le.mk _ _ ?_ ?_) ?_ ?_
 · simp [upd,num]
 · simp
 · simp
 · rintro i ⟨hi,heq⟩
   simp [num]
   refine iteP_intro (fun h1=>?_) (fun h1=>?_)
   · have h1b:i < b.length:=by omega
     have e1:(a.map tx)[i]?.getD .nilptr=tx a[i]:=by simp [List.getElem?_eq_getElem h1]
     have e2:(b.map tx)[i]?.getD .nilptr=tx b[i]:=by simp [List.getElem?_eq_getElem h1b]
     simp [num,h1,h1b,e1,e2,tx,bs_inj]
     by_cases hu:a[i]=b[i]
     · simp [hu]
       refine LoopNext.mk (i+1) ⟨by omega,?_⟩ (by omega) (Le.mk _ _ ?_ ?_)
       · rw [List.take_add_one,List.take_add_one,List.getElem?_eq_getElem h1,List.getElem?_eq_getElem h1b,heq,hu]
       · simp [num,tx];exact wrap_i64 (by omega) (by omega)
       · simp
     · have h2:a≠b:=fun e=>hu (by subst e;rfl)
       simp [hu,h2]
   · have e:i=a.length:=by omega
     subst e
     rw [List.take_length,hlen,List.take_length] at heq
     simp [heq]
end Go.Proofs
end
section
namespace Go.Proofs
open Go.PW Go.KP
attribute [local simp] RV.cells RV.one PV.cells PV.solid PV.one vals? allVal mkAgg setAt RV.ofCells elems PV.killL
variable [GF]
structure MK (st:St) (rules:List LRule) (rt:Tx) (acc:List Tx):Prop where
 e0:st.env 0=.val (.list 2 (rules.map rvRule))
 e2:st.env 2=.ptr 2 0
 e3:st.env 3=.ptr 3 0
 m2:st.mem 2=.box [.val (tx []),.emp 1,.emp 2]
 m3:st.mem 3=.box [.val (tx rt),.own 9,.val (.list 2 (rules.map rvRule))]
 m9:st.mem 9=.row 9 1 (acc.map tx)
theorem make_from4 (rules:List LRule) (rt:Tx) (acc:List Tx) (st:St) (h:MK st rules rt acc):EC Tryz.prog ir110_from4 st (K:=⟨RetP [.c 2 true 3] (.val (rvPolicy ⟨rt,acc,rules⟩))⟩):=by
 unfold ir110_from4
 simp [h.e2,h.e3,h.m2,h.m3,h.m9,tx]
 refine (resP_cz (id:=2) (n:=3) (cs:=[.val (tx rt),.own 9,.val (.list 2 (rules.map rvRule))]) (rs:=[tx rt,.list 1 (acc.map tx),.list 2 (rules.map rvRule)]) ?_ ?_ ?_ rfl (by omega)).trans ?_
 · simp [h.e2]
 · simp
   rfl
 · simp [PV.frzL,PV.frz,PV.plL,PV.pl,frzOf,h.m9,tx]
 · simp [mkAgg,allVal,rvPolicy]
theorem make_from3 (rules:List LRule) (hr:bdS 1048576 (bdRule 1048576) rules) (rt:Tx) (st:St) (h:MK st rules rt []):EC Tryz.prog ir110_from3 st (K:=⟨RetP [.c 2 true 3] (.val (rvPolicy ⟨rt,luris rules,rules⟩))⟩):=by
 unfold ir110_from3
 have hrl:=hr.1
 simp [h.e0,h.e2,h.e3,h.m2,h.m3,h.m9]
 refine callS_val rfl rfl (.inl rfl) (c_l04At rules sReportUri (by omega)) ?_
 rcases lidx_find rules (fun r=>decide (r.name=sReportUri)) with ⟨k1,k2⟩ | ⟨k,hk,k1,k2⟩
 · rw [k1]
   have e:luris rules=[]:=by unfold luris lwordsOf;rw [k2];rfl
   rw [e]
   simp [num]
   refine make_from4 rules rt [] _ ⟨?_,?_,?_,?_,?_,?_⟩<;>simp [h.e0,h.e2,h.e3,h.m2,h.m3,h.m9]
 · rw [k1]
   have e:luris rules=rules[k].words.foldl uriStep []:=by unfold luris lwordsOf;rw [k2]
   rw [e]
   have hb:=(hr.2 _ (List.getElem_mem hk)).2
   obtain ⟨r,hrk⟩:∃ r,rules[k]=r:=⟨_,rfl⟩
   rw [hrk] at hb k2 ⊢
   have hwl:=hb.1
   simp [num]
   refine loop_EC (X:=Nat) (fun i=>⟨envOf [(0,.val (.list 2 (rules.map rvRule))),(2,.ptr 2 0),(3,.ptr 3 0),(5,.val (num k)),(6,.val (num i))],memOf [(2,.box [.val (tx []),.emp 1,.emp 2]),(3,.box [.val (tx rt),.own 9,.val (.list 2 (rules.map rvRule))]),(9,.row 9 1 (((r.words.take i).foldl uriStep []).map tx))]⟩) (fun i=>i≤r.words.length) (fun i=>r.words.length - i) 0 (Le.mk _ _ ?_ ?_) ?_ ?_
   · simp [upd,num,h.e0,h.e2,h.e3]
   · simp [h.m2,h.m3,h.m9]
   · simp
   · intro i hi
     simp [num,hk,hrk,rvRule]
     refine iteP_intro (fun h1=>?_) (fun h1=>?_)
     · have e1:(r.words.map tx)[i]?.getD .nilptr=tx r.words[i]:=by simp [List.getElem?_eq_getElem h1]
       have hwi:r.words[i].length≤1048576:=hb.2 _ (List.getElem_mem h1)
       have hst:=foldl_take_succ uriStep [] r.words i h1
       have hal:((r.words.take i).foldl uriStep []).length≤4:=uris_len _ _ (by simp)
       generalize (r.words.take i).foldl uriStep []=acc at *
       simp [num,hk,hrk,rvRule,h1,e1,tx]
       refine callS_pv rfl rfl (fun _=>rfl) rfl (.inl rfl) (c_l03Clean r.words[i] (by omega)) ?_
       cases hc:lclean r.words[i] with
       | none=>
        have hu:uriStep acc r.words[i]=acc:=by unfold uriStep;rw [hc]
        rw [hu] at hst
        simp [cleanRes]
        refine LoopNext.mk (i+1) (by omega) (by omega) (Le.mk _ _ ?_ ?_)
        · simp [num];exact wrap_i64 (by omega) (by omega)
        · simp [hst,tx]
       | some u=>
        simp [cleanRes]
        refine callS_val rfl rfl (.inr rfl) (c_l01Has acc u (by omega)) ?_
        by_cases hm:u∈acc
        · have hu:uriStep acc r.words[i]=acc:=by unfold uriStep;rw [hc];simp [hm]
          rw [hu] at hst
          simp [hm]
          refine LoopNext.mk (i+1) (by omega) (by omega) (Le.mk _ _ ?_ ?_)
          · simp [num];exact wrap_i64 (by omega) (by omega)
          · simp [hst,tx]
        · by_cases h4:acc.length < 4
          · have hu:uriStep acc r.words[i]=acc++[u]:=by unfold uriStep;rw [hc];simp [hm,h4]
            rw [hu] at hst
            have h4':(acc.length:Int) < 4:=by omega
            simp [hm,h4,h4',tx]
            refine ⟨by omega,by omega,LoopNext.mk (i+1) (by omega) (by omega) (Le.mk _ _ ?_ ?_)⟩
            · simp [num];exact wrap_i64 (by omega) (by omega)
            · simp [hst,tx]
          · have hu:uriStep acc r.words[i]=acc:=by unfold uriStep;rw [hc];simp [h4]
            rw [hu] at hst
            have h4':¬ (acc.length:Int) < 4:=by omega
            simp [hm,h4,h4']
            refine LoopNext.mk (i+1) (by omega) (by omega) (Le.mk _ _ ?_ ?_)
            · simp [num];exact wrap_i64 (by omega) (by omega)
            · simp [hst,tx]
     · have e9:i=r.words.length:=by omega
       subst e9
       simp
       refine make_from4 rules rt _ _ ⟨?_,?_,?_,?_,?_,?_⟩<;>simp
theorem c_l04Make (rules:List LRule) (hr:bdS 1048576 (bdRule 1048576) rules):CallOK Tryz.prog 110 [.val (.list 2 (rules.map rvRule))] (.ret (.val (rvPolicy ⟨lrepTo rules,luris rules,rules⟩)) []) []:=by
 refine call_val mixed ok110 rfl (fun _=>rfl) ?_
 unfold ir110
 rw [evalC_intro]
 have hrl:=hr.1
 simp [initSt,avPVs,avPV,avBoxesL,avBoxes,PV.kill]
 refine callS_val rfl rfl (.inl rfl) (c_l04At rules sReportTo (by omega)) ?_
 rcases lidx_find rules (fun r=>decide (r.name=sReportTo)) with ⟨k1,k2⟩ | ⟨k,hk,k1,k2⟩
 · rw [k1]
   have e:lrepTo rules=[]:=by unfold lrepTo lwordsOf;rw [k2];rfl
   rw [e]
   simp [num]
   refine make_from3 rules hr [] _ ⟨?_,?_,?_,?_,?_,?_⟩<;>simp [tx,bs]
 · rw [k1]
   have hb:=(hr.2 _ (List.getElem_mem hk)).2
   obtain ⟨r,hrk⟩:∃ r,rules[k]=r:=⟨_,rfl⟩
   rw [hrk] at hb k2
   have e0:lrepTo rules=headWord r.words:=by unfold lrepTo lwordsOf;rw [k2]
   rw [e0]
   simp [num,hk,hrk,rvRule]
   cases hw:r.words with
   | nil=>
    rw [show headWord []=[] from rfl]
    simp
    refine make_from3 rules hr [] _ ⟨?_,?_,?_,?_,?_,?_⟩<;>simp [tx,bs]
   | cons w ws=>
    have hwl:w.length≤1048576:=hb.2 w (by rw [hw];simp)
    simp [hk,hrk,rvRule,hw,tx]
    refine callS_val rfl rfl (.inl rfl) (c_l00Word w (by omega)) ?_
    have e1:headWord (w :: ws)=if lword w then w else []:=rfl
    rw [e1]
    cases hlw:lword w with
    | false=>
     rw [if_neg (by simp)]
     simp
     refine make_from3 rules hr [] _ ⟨?_,?_,?_,?_,?_,?_⟩<;>simp [tx,bs]
    | true=>
     rw [if_pos rfl]
     simp [hk,hrk,rvRule,hw,tx]
     refine make_from3 rules hr w _ ⟨?_,?_,?_,?_,?_,?_⟩<;>simp [tx,bs]
structure OKS (st:St) (p:LPolicy) (i:Nat):Prop where
 e1:st.env 1=.ptr 1 0
 e3:st.env 3=.val (num i)
 m1:st.mem 1=.box [.val (tx p.reportTo),.val (.list 1 (p.uris.map tx)),.val (.list 2 (p.rules.map rvRule))]
theorem okpol_words {K:Kx (PExit→St→Prop)} {st:St} {p:LPolicy} {i:Nat} {r:LRule} (hb:bdRule 1048576 r) (h:OKS st p i) (h4:st.env 4=.ptr 4 0) (h5:st.env 5=.val (num 0)) (m4:st.mem 4=.box [.val (tx r.name),.val (.list 1 (r.words.map tx))])
 (hK:∀ st',OKS st' p i→r.words.all lwordOK=true→K.k .normal st') (hR:∀ st',st'.env 2=.val (.bool false)→r.words.all lwordOK=false→K.k .ret st') :
 EC Tryz.prog ir71_s42 st (K:=K):=by
 unfold ir71_s42
 have hwl:=hb.2.1
 simp only [evalC_skip,evalC_reg,evalC_draw,evalC_seq,evalC_cond,evalC_block,evalC_exit,evalC_ret,then_normal,then_exit,then_ret,then_pan,inBlock_normal,inBlock_ret,inBlock_pan,inBlock_exit,condS_bool,evalOps_nil,evalOps_cons,evalX_nil,evalX_cons,guardS_none,guardS_some,setD_some,setD_none,ev_t,ev_k,Option.getD_some,Option.getD_none,stepE_mov,stepE_pick,stepE_alloc,stepE_box,stepE_build,stepE_store,stepE_app,stepE_nilck,stepE_bin,stepE_eqb,stepE_eqs,stepE_un,stepE_conv,stepE_faddr,stepE_fld,stepE_load,stepE_iaddr,stepE_idx,stepE_slc,stepE_ext,stepE_lens,stepE_len,stepE_tostr,stepE_mkfn,stepE_ifc,stepE_mn,stepE_mx,stepE_mx4,stepE_mks,stepE_isnil,stepE_lit,stepE_call,stepE_callv,stepX_mov,stepX_nilck,stepX_bin,stepX_eqb,stepX_eqs,stepX_un,stepX_conv,stepX_faddr,stepX_fld,stepX_load,stepX_iaddr,stepX_idx,stepX_slc,stepX_ext,stepX_lens,stepX_len,stepX_tostr,stepX_mkfn,stepX_ifc,stepX_mn,stepX_mx,stepX_mx4,stepX_pick,stepX_build,stepX_lit,stepX_call,stepX_callv,binS_int,binS_str,binI_add,binI_sub,binI_mul,binI_quo,binI_rem,binI_eql,binI_neq,binI_lss,binI_leq,binI_gtr,binI_geq,binStr_add,binStr_eql,binStr_neq,unS_not,unS_neg,upd_app,envOf_nil,envOf_cons,memOf_nil,memOf_cons,RetP_ret,RetP_normal,resP_t,resP_tt,fin_env,frz_val,frz_emp,frz_own,pl_val,pl_emp,kill_val,kill_own,kill_ptr,kill_emp,kill_elt,kill_at,kill_undef,kill_fn,kill_skip,killM_row,killM_box,killM_dead,Kx_k,fillP_nil,fillP_cons,slc_lo,slc_hi,slc_lohi,slcl_lo,slcl_hi,Option.map_some,Option.map_none,iteP_true,iteP_false,onBool_val,onBool_skip,nilck_ptr,nilck_elt,nilck_at,nilck_fn,eqb_val,eqs_val,conv_val,faddr_ptr,faddr_elt,faddr_at,fld_val,fld_agg,load_ptr,loadBox_box,load_elt,loadRow_row,load_at,iaddr_lst,iaddr_own,iaddrRow_row,idx_val,ext_tup,lens_val,len_val,len_emp,len_own,lenRow_row,tostr_val,tostr_emp,tostr_own,tostrRow_row,ifc_val,mn_val,mx_val,mx4_val,lit_some,fn_fn,mks_val,isnil_nilif,isnil_ifc,isnil_emp,isnil_list,isnil_own,isnilRow_row,store_ptrK,storeBox_box,store_eltK,storeRow_row,add_some,app_own,app_emp,appRow_row,addOf_list,addOf_emp,addOf_own,rowOf_row]
 refine loop_EC (X:=Nat) (fun j=>⟨envOf [(1,.ptr 1 0),(3,.val (num i)),(4,.ptr 4 0),(5,.val (num j))],memOf [(1,.box [.val (tx p.reportTo),.val (.list 1 (p.uris.map tx)),.val (.list 2 (p.rules.map rvRule))]),(4,.box [.val (tx r.name),.val (.list 1 (r.words.map tx))])]⟩) (fun j=>j≤r.words.length∧(r.words.take j).all lwordOK=true) (fun j=>r.words.length - j) 0 (Le.mk _ _ ?_ ?_) ?_ ?_
 · simp [h.e1,h.e3,h4,h5]
 · simp [h.m1,m4]
 · simp
 · rintro j ⟨hj,hall⟩
   unfold ir71_l42
   simp [num]
   refine iteP_intro (fun h1=>?_) (fun h1=>?_)
   · have e1:(r.words.map tx)[j]?.getD .nilptr=tx r.words[j]:=by simp [List.getElem?_eq_getElem h1]
     have hwj:r.words[j].length≤1048576:=hb.2.2 _ (List.getElem_mem h1)
     have hst:(r.words.take (j+1)).all lwordOK=((r.words.take j).all lwordOK && lwordOK r.words[j]):=all_take_succ _ _ _ h1
     rw [hall,Bool.true_and] at hst
     simp [num,h1,e1,tx]
     refine callS_val rfl rfl (.inl rfl) (c_l04Word r.words[j] (by omega)) ?_
     cases hw:lwordOK r.words[j] with
     | false=>
      simp
      refine hR _ (by simp) ?_
      rw [List.all_eq_false]
      exact ⟨r.words[j],List.getElem_mem h1,by simp [hw]⟩
     | true=>
      simp
      refine LoopNext.mk (j+1) ⟨by omega,by rw [hst,hw]⟩ (by omega) (Le.mk _ _ ?_ ?_)
      · simp [num];exact wrap_i64 (by omega) (by omega)
      · simp [tx]
   · have e:j=r.words.length:=by omega
     subst e
     rw [List.take_length] at hall
     simp
     refine hK _ ⟨?_,?_,?_⟩ hall<;>simp [num,tx]
theorem okpol_from3 (p:LPolicy) (hb:bdPolicy 1048576 p) (i:Nat) (st:St) (h:OKS st p i):EC Tryz.prog ir71_from3 st (K:=⟨RetP [.t 2] (.val (.bool (decide (p.reportTo=lrepTo p.rules) && decide (p.uris=luris p.rules))))⟩):=by
 unfold ir71_from3
 have hul:=hb.2.1.1
 have hl4:=uris_len (lwordsOf p.rules sReportUri) [] (by simp)
 simp [h.e1,h.m1]
 refine callS_val rfl rfl (.inl rfl) (c_l04Make p.rules hb.2.2) ?_
 simp [rvPolicy,tx,bs_inj,h.e1,h.m1,PV.kill]
 by_cases hr:p.reportTo=lrepTo p.rules
 · rw [← hr]
   simp [h.e1,h.m1,PV.kill]
   refine callS_val rfl rfl (.inl rfl) (c_l00SameTexts p.uris (luris p.rules) (by omega) (by unfold luris;omega)) ?_
   simp
 · simp [hr]
theorem lpolicyOK_eq (p:LPolicy) (h:(p.rules.all lruleOK && luniq (p.rules.map fun r=>r.name))=true) (h8:p.rules.length≤8):lpolicyOK p=(decide (p.reportTo=lrepTo p.rules) && decide (p.uris=luris p.rules)):=by
 unfold lpolicyOK;rw [h,decide_eq_true h8];rfl
theorem lpolicyOK_bad (p:LPolicy) (i:Nat) (hi:i < p.rules.length) (h:(lruleOK p.rules[i] && decide ((p.rules[i]).name∉(p.rules.map fun r=>r.name).take i))=false):lpolicyOK p=false:=by
 unfold lpolicyOK
 rw [Bool.and_eq_false_iff] at h
 have:(p.rules.all lruleOK && luniq (p.rules.map fun r=>r.name))=false:=by
  rw [Bool.and_eq_false_iff]
  rcases h with h | h
  · exact .inl (List.all_eq_false.2 ⟨_,List.getElem_mem hi,by simp [h]⟩)
  · refine .inr (luniq_false _ (i+1) ?_)
    rw [luniq_take _ i (by simpa using hi)]
    simp only [List.getElem_map]
    rw [h,Bool.and_false]
 rw [this];simp
theorem c_l04OK (p:LPolicy) (hb:bdPolicy 1048576 p):CallOK Tryz.prog 71 [.val (rvPolicy p)] (.ret (.val (.bool (lpolicyOK p))) []) []:=by
 refine call_val mixed ok71 rfl (fun _=>rfl) ?_
 unfold ir71
 rw [evalC_intro]
 have hrl:=hb.2.2.1
 by_cases h8:p.rules.length≤8
 rotate_left
 · have h8':(8:Int) < p.rules.length:=by omega
   have:lpolicyOK p=false:=by unfold lpolicyOK;rw [decide_eq_false h8];rfl
   simp [initSt,avPVs,avPV,avBoxesL,avBoxes,rvPolicy,tx,h8',this]
 have h8':¬ (8:Int) < p.rules.length:=by omega
 simp [initSt,avPVs,avPV,avBoxesL,avBoxes,rvPolicy,tx,h8']
 refine loop_EC (X:=Nat) (fun i=>⟨envOf [(1,.ptr 1 0),(3,.val (num i))],memOf [(1,.box [.val (tx p.reportTo),.val (.list 1 (p.uris.map tx)),.val (.list 2 (p.rules.map rvRule))])]⟩) (fun i=>i≤p.rules.length∧((p.rules.take i).all lruleOK && luniq ((p.rules.map fun r=>r.name).take i))=true) (fun i=>p.rules.length - i) 0 (Le.mk _ _ ?_ ?_) ?_ ?_
 · simp [upd,num]
 · simp [tx]
 · simp [luniq]
 · rintro i ⟨hi,hall⟩
   unfold ir71_l11
   simp [num]
   refine iteP_intro (fun h1=>?_) (fun h1=>?_)
   · have hbr:=hb.2.2.2 _ (List.getElem_mem h1)
     have hst:(p.rules.take (i+1)).all lruleOK=((p.rules.take i).all lruleOK && lruleOK p.rules[i]):=all_take_succ _ _ _ h1
     have hst2:=luniq_take (p.rules.map fun r=>r.name) i (by simpa using h1)
     simp only [List.getElem_map] at hst2
     have hbad:=lpolicyOK_bad p i h1
     have hself:=lidx_self (fun r:LRule=>r.name) p.rules i h1
     rw [Bool.and_eq_true] at hall
     rw [hall.1,Bool.true_and] at hst
     rw [hall.2,Bool.true_and] at hst2
     obtain ⟨r,hrk⟩:∃ r,p.rules[i]=r:=⟨_,rfl⟩
     rw [hrk] at hbr hst hst2 hbad
     simp only [hrk] at hself
     have hnl:r.name.length≤1048576:=hbr.1
     have hwl:r.words.length≤1048576:=hbr.2.1
     simp [num,h1,hrk,rvRule,tx,PV.kill]
     refine callS_val rfl rfl (.inl rfl) (c_l04Name r.name (by omega)) ?_
     cases hn:lrname r.name with
     | false=>
      have hb2:=hbad (by unfold lruleOK;rw [hn];rfl)
      simp [hb2]
     | true=>
      simp [num,h1,hrk,rvRule,tx,PV.kill]
      refine callS_val rfl rfl (.inl rfl) (c_l04At p.rules r.name (by omega)) ?_
      by_cases hu:r.name∈(p.rules.map fun r=>r.name).take i
      · have hb2:=hbad (by rw [decide_eq_false (fun h=>h hu),Bool.and_false])
        have hne:¬ (lidx p.rules fun x=>decide (x.name=r.name))=(i:Int):=fun h=>hself.1 h hu
        simp [num,hb2,hne]
      · have heq:=hself.2 hu
        rw [decide_eq_true hu] at hst2
        by_cases hw8:r.words.length≤8
        rotate_left
        · have hb2:=hbad (by unfold lruleOK;rw [decide_eq_false hw8];simp)
          have hw8':(8:Int) < r.words.length:=by omega
          simp [num,hb2,heq,hw8']
        · have hw8':¬ (8:Int) < r.words.length:=by omega
          simp [num,heq,hw8',PV.kill]
          refine okpol_words (p:=p) (i:=i) (r:=r) hbr ⟨?_,?_,?_⟩ ?_ ?_ ?_ (fun st' hs hall2=>?_) (fun st' h2 hall2=>?_)
          · simp
          · simp [num]
          · simp [tx]
          · simp
          · simp [num]
          · simp [tx]
          · have hok:lruleOK r=true:=by unfold lruleOK;rw [hn,decide_eq_true hw8,hall2];rfl
            simp [hs.e1,hs.e3,num]
            refine LoopNext.mk (i+1) ⟨by omega,by rw [hst,hst2,hok];rfl⟩ (by omega) (Le.mk _ _ ?_ ?_)
            · simp [num,hs.e1];exact wrap_i64 (by omega) (by omega)
            · simp [hs.m1]
          · have hb2:=hbad (by unfold lruleOK;rw [hall2];simp)
            simp [h2,hb2]
   · have e:i=p.rules.length:=by omega
     subst e
     rw [List.take_length,List.take_of_length_le (by simp)] at hall
     rw [lpolicyOK_eq p hall h8]
     simp
     refine okpol_from3 p hb p.rules.length _ ⟨?_,?_,?_⟩<;>simp [num,tx]
end Go.Proofs
end
section
namespace Go.Proofs
open Go.PW Go.KP
attribute [local simp] RV.cells RV.one PV.cells PV.solid PV.one vals? allVal mkAgg setAt RV.ofCells elems PV.killL
variable [GF]
theorem c_l03At (l:List LTarget) (name:Tx) (hl:l.length < 1099511627776):CallOK Tryz.prog 151 [.val (.list 3 (l.map rvTarget)),.val (tx name)] (.ret (.val (num (lidx l fun r=>decide (r.url=name)))) []) []:=by
 refine call_val mixed ok151 rfl (fun _=>rfl) ?_
 unfold ir151
 rw [evalC_intro]
 simp [initSt,avPVs,avPV,avBoxesL,avBoxes,num]
 refine loop_EC (X:=Nat) (fun i=>⟨envOf [(0,.val (.list 3 (l.map rvTarget))),(1,.val (tx name)),(5,.val (num i))],memOf []⟩) (fun i=>i≤l.length∧∀ k (hk:k < i) (hk':k < l.length),l[k].url≠name) (fun i=>l.length - i) 0 (Le.mk _ _ ?_ ?_) ?_ ?_
 · simp [upd,num]
 · simp
 · simp
 · rintro i ⟨hi,hne⟩
   simp [num]
   refine iteP_intro (fun h1=>?_) (fun h1=>?_)
   · have e1:(l.map rvTarget)[i]?.getD .nilptr=rvTarget l[i]:=by simp [List.getElem?_eq_getElem h1]
     simp [num,h1,e1,rvTarget,tx,bs_inj]
     by_cases hu:l[i].url=name
     · have hh:lidx l (fun r=>decide (r.url=name))=i:=lidx_hit h1 (by simp [hu]) (fun k hk=>by simp [hne k hk (by omega)])
       simp [hu,hh,num]
     · simp [hu]
       refine LoopNext.mk (i+1) ⟨by omega,fun k hk hk'=>?_⟩ (by omega) (Le.mk _ _ ?_ ?_)
       · by_cases e:k=i
         · subst e;exact hu
         · exact hne k (by omega) hk'
       · simp [num,tx];exact wrap_i64 (by omega) (by omega)
       · simp
   · have e:i=l.length:=by omega
     have hh:lidx l (fun r=>decide (r.url=name))=-1:=lidx_none (fun k hk=>by simp [hne k (by omega) hk])
     simp [hh,num]
theorem lgroupOK_bad (g:LGroup) (i:Nat) (hi:i < g.targets.length) (h:(ltargetOK g.targets[i] && decide ((g.targets[i]).url∉(g.targets.map fun r=>r.url).take i))=false):(g.targets.all ltargetOK && luniq (g.targets.map fun t=>t.url))=false:=by
 rw [Bool.and_eq_false_iff] at h ⊢
 rcases h with h | h
 · exact .inl (List.all_eq_false.2 ⟨_,List.getElem_mem hi,by simp [h]⟩)
 · refine .inr (luniq_false _ (i+1) ?_)
   rw [luniq_take _ i (by simpa using hi)]
   simp only [List.getElem_map]
   rw [h,Bool.and_false]
theorem l03OK_core (g:LGroup) (b1 b2 b3:Bool) (hb:bdGroup 1048576 g) (hW:CallOK Tryz.prog 115 [.val (tx g.name)] (.ret (.val (.bool b1)) []) []) (hA:CallOK Tryz.prog 56 [.val (.int .i64 g.age),.val (.int .i64 1),.val (.int .i64 100)] (.ret (.val (.bool b2)) []) [])
 (hT:CallOK Tryz.prog 56 [.val (.int .i64 g.targets.length),.val (.int .i64 1),.val (.int .i64 4)] (.ret (.val (.bool b3)) []) []) :
 CallOK Tryz.prog 112 [.val (rvGroup g)] (.ret (.val (.bool (b1 && b2 && b3 && (g.targets.all ltargetOK && luniq (g.targets.map fun t=>t.url))))) []) []:=by
 have htl:g.targets.length≤1048576:=hb.2.1
 refine call_val mixed ok112 rfl (fun _=>rfl) ?_
 unfold ir112
 rw [evalC_intro]
 simp [initSt,avPVs,avPV,avBoxesL,avBoxes,rvGroup,tx,num]
 refine callS_val rfl rfl (.inl rfl) hW ?_
 cases b1 with
 | false=>simp
 | true=>
  simp [num]
  refine callS_val rfl rfl (.inl rfl) hA ?_
  cases b2 with
  | false=>simp
  | true=>
   simp [num]
   refine callS_val rfl rfl (.inl rfl) hT ?_
   cases b3 with
   | false=>simp
   | true=>
    simp [num]
    refine loop_EC (X:=Nat) (fun i=>⟨envOf [(1,.ptr 1 0),(3,.val (num i))],memOf [(1,.box [.val (tx g.name),.val (num g.age),.val (.list 3 (g.targets.map rvTarget))])]⟩) (fun i=>i≤g.targets.length∧((g.targets.take i).all ltargetOK && luniq ((g.targets.map fun r=>r.url).take i))=true) (fun i=>g.targets.length - i) 0 (Le.mk _ _ ?_ ?_) ?_ ?_
    · simp [upd,num]
    · simp [tx,num]
    · simp [luniq]
    · rintro i ⟨hi,hall⟩
      simp [num]
      refine iteP_intro (fun h1=>?_) (fun h1=>?_)
      · have hbr:(g.targets[i]).url.length≤1048576:=hb.2.2 _ (List.getElem_mem h1)
        have hst:(g.targets.take (i+1)).all ltargetOK=((g.targets.take i).all ltargetOK && ltargetOK g.targets[i]):=all_take_succ _ _ _ h1
        have hst2:=luniq_take (g.targets.map fun r=>r.url) i (by simpa using h1)
        simp only [List.getElem_map] at hst2
        have hbad:=lgroupOK_bad g i h1
        have hself:=lidx_self (fun r:LTarget=>r.url) g.targets i h1
        rw [Bool.and_eq_true] at hall
        rw [hall.1,Bool.true_and] at hst
        rw [hall.2,Bool.true_and] at hst2
        obtain ⟨r,hrk⟩:∃ r,g.targets[i]=r:=⟨_,rfl⟩
        rw [hrk] at hbr hst hst2 hbad
        simp only [hrk] at hself
        have hT3:=c_l03Target r (by omega)
        have hAt:=c_l03At g.targets r.url (by omega)
        simp [num,h1,hrk,rvTarget,tx]
        refine callX_val rfl rfl (.inl rfl) hT3 ?_
        cases hn:ltargetOK r with
        | false=>
         have hb2:=hbad (by rw [hn];rfl)
         simp [hb2]
        | true=>
         simp [num,h1,hrk,rvTarget,tx]
         refine callX_val rfl rfl (.inl rfl) hAt ?_
         by_cases hu:r.url∈(g.targets.map fun r=>r.url).take i
         · have hb2:=hbad (by rw [decide_eq_false (fun h=>h hu),Bool.and_false])
           have hne:¬ (lidx g.targets fun x=>decide (x.url=r.url))=(i:Int):=fun h=>hself.1 h hu
           simp [num,hb2,hne]
         · have heq:=hself.2 hu
           rw [decide_eq_true hu] at hst2
           simp [num,heq]
           refine LoopNext.mk (i+1) ⟨by omega,by rw [hst,hst2,hn];rfl⟩ (by omega) (Le.mk _ _ ?_ ?_)
           · simp [num];exact wrap_i64 (by omega) (by omega)
           · simp [tx,num]
      · have e:i=g.targets.length:=by omega
        subst e
        rw [List.take_length,List.take_of_length_le (by simp)] at hall
        simp [hall]
theorem c_l03OK (g:LGroup) (hb:bdGroup 1048576 g):CallOK Tryz.prog 112 [.val (rvGroup g)] (.ret (.val (.bool (lgroupOK g))) []) []:=by
 have hnl:g.name.length≤1048576:=hb.1
 have h:=l03OK_core g _ _ _ hb (c_l00Word g.name (by omega)) (c_l01In .i64 g.age 1 100) (c_l01In .i64 g.targets.length 1 4)
 have q3:(1≤g.targets.length∧g.targets.length≤4)↔((1:Int)≤g.targets.length∧(g.targets.length:Int)≤4):=by omega
 unfold lgroupOK
 rw [decide_eq_decide.2 q3]
 exact h
end Go.Proofs
end
