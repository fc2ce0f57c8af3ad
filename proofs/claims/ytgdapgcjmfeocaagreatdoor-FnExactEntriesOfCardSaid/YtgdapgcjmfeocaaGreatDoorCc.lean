/- Cc: merged out of KSl, KSp, KSt. -/
import Derived.Test.YtgdapgcjmfeocaaGreatDoorCa
import Derived.Test.YtgdapgcjmfeocaaGreatDoorAc
import Derived.Test.YtgdapgcjmfeocaaGreatDoorBa
set_option linter.unusedSectionVars false
set_option linter.unusedSimpArgs false
set_option linter.unusedVariables false
set_option maxRecDepth 100000
section
namespace Go.Proofs
open Go.PW Go.KP
attribute [local simp] RV.cells RV.one PV.cells PV.solid PV.one vals? allVal mkAgg setAt RV.ofCells elems PV.killL
variable [GF]
theorem g_szStringS (l:List Tx) (left:Int) (h0:0≤left) (h1:left≤1048576) (hx:bdS 9223372036854775807 (fun t=>t.length≤9223372036854775807) l):CallOK Tryz.prog 68 [.val (.list 1 (l.map tx)),.val (num left)] (.ret (.val (num (cut left (zS List.length l)))) []) []:=by
 refine call_val mixed ok68 rfl (fun _=>rfl) ?_
 unfold ir68
 rw [evalC_intro]
 have hl:l.length≤9223372036854775807:=hx.1
 have hw:IntKind.i64.wrap (left - (l.length:Int))=left - l.length:=wrap_i64 (by omega) (by omega)
 have hzs:zS List.length l=l.length+lsum List.length l:=rfl
 by_cases h:left - (l.length:Int) < 0
 · rw [cut_neg (by omega)]
   simp [initSt,avPVs,avPV,avBoxesL,avBoxes,num,hw,h]
 · simp [initSt,avPVs,avPV,avBoxesL,avBoxes,num,hw,h]
   refine loop_EC (X:=Nat) (fun i=>⟨envOf [(0,.val (.list 1 (l.map tx))),(1,.val (num (left - l.length - (lsum List.length (l.take i):Nat)))),(5,.val (num i))],memOf []⟩) (fun i=>i≤l.length∧0≤left - l.length - (lsum List.length (l.take i):Nat)) (fun i=>l.length - i) 0 (Le.mk _ _ ?_ ?_) ?_ ?_
   · simp [upd,num,lsum,PV.kill]
   · simp
   · simp [lsum];omega
   · rintro i ⟨hi,hg⟩
     simp [num]
     refine iteP_intro (fun h2=>?_) (fun h2=>?_)
     · have e1:(l.map tx)[i]?.getD .nilptr=tx l[i]:=by simp [List.getElem?_eq_getElem h2]
       have hsn:lsum List.length (l.take (i+1))=lsum List.length (l.take i)+List.length l[i]:=lsum_take _ h2
       have hle:=lsum_le (f:=List.length) l (i+1)
       have hxi:l[i].length≤9223372036854775807:=hx.2 _ (List.getElem_mem h2)
       have hw2:IntKind.i64.wrap (left - (l.length:Int) - (lsum List.length (l.take i):Int) - (l[i].length:Int))=left - (l.length:Int) - (lsum List.length (l.take i):Int) - (l[i].length:Int):=wrap_i64 (by omega) (by omega)
       by_cases h3:left - (l.length:Int) - (lsum List.length (l.take i):Int) - (l[i].length:Int) < 0
       · rw [cut_neg (by omega)]
         simp [num,h2,e1,tx,bs_size,hw2,h3]
       · simp [num,h2,e1,tx,bs_size,hw2,h3]
         refine LoopNext.mk (i+1) ⟨by omega,by omega⟩ (by omega) (Le.mk _ _ ?_ ?_)
         · simp [num]
           exact ⟨by omega,wrap_i64 (by omega) (by omega)⟩
         · simp
     · have e1:i=l.length:=by omega
       subst e1
       rw [List.take_length] at *
       rw [cut_pos (by omega)]
       simp [num]
       omega
theorem g_eqStringS (l:List Tx) (hx:bdS 1048576 (fun t=>t.length≤1048576) l):CallOK Tryz.prog 88 [.val (.list 1 (l.map tx)),.val (.list 1 (l.map tx))] (.ret (.val (.bool true)) []) []:=by
 refine call_val mixed ok88 rfl (fun _=>rfl) ?_
 unfold ir88
 rw [evalC_intro]
 have hl:l.length≤1048576:=hx.1
 simp [initSt,avPVs,avPV,avBoxesL,avBoxes,num]
 refine loop_EC (X:=Nat) (fun i=>⟨envOf [(0,.val (.list 1 (l.map tx))),(1,.val (.list 1 (l.map tx))),(5,.val (num i))],memOf []⟩) (fun i=>i≤l.length) (fun i=>l.length - i) 0 (Le.mk _ _ ?_ ?_) ?_ ?_
 · simp [upd,num,PV.kill]
 · simp
 · simp
 · intro i hi
   simp [num]
   refine iteP_intro (fun h1=>?_) (fun h1=>?_)
   · have e1:(l.map tx)[i]?.getD .nilptr=tx l[i]:=by simp [List.getElem?_eq_getElem h1]
     simp [num,h1,e1,tx]
     refine LoopNext.mk (i+1) (by omega) (by omega) (Le.mk _ _ ?_ ?_)
     · simp [num];exact wrap_i64 (by omega) (by omega)
     · simp
   · simp
theorem g_szRule (x:LRule) (left:Int) (h0:0≤left) (h1:left≤1048576) (hx:bdRule 9223372036854775807 x):CallOK Tryz.prog 105 [.val (rvRule x),.val (num left)] (.ret (.val (num (cut left (zRule x)))) []) []:=by
 refine call_val mixed ok105 rfl (fun _=>rfl) ?_
 unfold ir105
 rw [evalC_intro]
 unfold bdRule at hx
 obtain ⟨b0,b1⟩:=hx
 unfold zRule
 have w0:IntKind.i64.wrap (left - ((x.name.length:Nat):Int))=left - ((x.name.length:Nat):Int):=wrap_i64 (by omega) (by omega)
 by_cases k0:left - ((x.name.length:Nat):Int) < 0
 · rw [cut_neg (by omega)]
   simp [initSt,avPVs,avPV,avBoxesL,avBoxes,rvRule,tx,num,bs_size,allVal,w0,k0]
 · simp [initSt,avPVs,avPV,avBoxesL,avBoxes,rvRule,tx,num,bs_size,allVal,w0,k0]
   refine callS_val rfl rfl (.inl rfl) (g_szStringS x.words (left - (x.name.length:Nat)) (by omega) (by omega) b1) ?_
   by_cases k1:(left - (x.name.length:Nat)) - ((zS List.length x.words:Nat):Int) < 0
   · first | rw [cut_neg (by omega),cut_neg (by omega)] | rw [cut_neg (by omega)]
     simp [rvRule,tx,num,bs_size,allVal]
   · first | rw [cut_pos (by omega),cut_pos (by omega)] | rw [cut_pos (by omega)]
     simp [rvRule,tx,num,bs_size,allVal,k0,k1]
     try omega
theorem g_eqRule (x:LRule) (hx:bdRule 1048576 x):CallOK Tryz.prog 141 [.val (rvRule x),.val (rvRule x)] (.ret (.val (.bool true)) []) []:=by
 refine call_val mixed ok141 rfl (fun _=>rfl) ?_
 unfold ir141
 rw [evalC_intro]
 unfold bdRule at hx
 obtain ⟨b0,b1⟩:=hx
 simp [initSt,avPVs,avPV,avBoxesL,avBoxes,rvRule,tx,num,allVal]
 refine callS_val rfl rfl (.inl rfl) (g_eqStringS x.words b1) ?_
 simp [rvRule,tx,num,allVal]
theorem g_szRuleS (l:List LRule) (left:Int) (h0:0≤left) (h1:left≤1048576) (hx:bdS 9223372036854775807 (bdRule 9223372036854775807) l):CallOK Tryz.prog 69 [.val (.list 2 (l.map rvRule)),.val (num left)] (.ret (.val (num (cut left (zS zRule l)))) []) []:=by
 refine call_val mixed ok69 rfl (fun _=>rfl) ?_
 unfold ir69
 rw [evalC_intro]
 have hl:l.length≤9223372036854775807:=hx.1
 have hw:IntKind.i64.wrap (left - (l.length:Int))=left - l.length:=wrap_i64 (by omega) (by omega)
 have hzs:zS zRule l=l.length+lsum zRule l:=rfl
 by_cases h:left - (l.length:Int) < 0
 · rw [cut_neg (by omega)]
   simp [initSt,avPVs,avPV,avBoxesL,avBoxes,num,hw,h]
 · simp [initSt,avPVs,avPV,avBoxesL,avBoxes,num,hw,h]
   refine loop_EC (X:=Nat) (fun i=>⟨envOf [(0,.val (.list 2 (l.map rvRule))),(1,.val (num (left - l.length - (lsum zRule (l.take i):Nat)))),(5,.val (num i))],memOf []⟩) (fun i=>i≤l.length∧0≤left - l.length - (lsum zRule (l.take i):Nat)) (fun i=>l.length - i) 0 (Le.mk _ _ ?_ ?_) ?_ ?_
   · simp [upd,num,lsum,PV.kill]
   · simp
   · simp [lsum];omega
   · rintro i ⟨hi,hg⟩
     simp [num]
     refine iteP_intro (fun h2=>?_) (fun h2=>?_)
     · have e1:(l.map rvRule)[i]?.getD .nilptr=rvRule l[i]:=by simp [List.getElem?_eq_getElem h2]
       have hsn:lsum zRule (l.take (i+1))=lsum zRule (l.take i)+zRule l[i]:=lsum_take _ h2
       have hle:=lsum_le (f:=zRule) l (i+1)
       simp [num,h2,e1,rvRule,tx]
       refine callS_val rfl rfl (.inl rfl) (g_szRule l[i] (left - l.length - (lsum zRule (l.take i):Nat)) (by omega) (by omega) (hx.2 _ (List.getElem_mem h2))) ?_
       by_cases h3:left - (l.length:Int) - (lsum zRule (l.take i):Int) - (zRule l[i]:Int) < 0
       · have c1:cut (left - l.length - (lsum zRule (l.take i):Nat)) (zRule l[i])=-1:=cut_neg (by omega)
         have c2:cut left (zS zRule l)=-1:=cut_neg (by omega)
         rw [c1,c2]
         simp [num]
       · have c1:cut (left - l.length - (lsum zRule (l.take i):Nat)) (zRule l[i])=left - l.length - (lsum zRule (l.take i):Nat) - (zRule l[i]:Nat):=cut_pos (by omega)
         rw [c1]
         simp [num,h3]
         refine LoopNext.mk (i+1) ⟨by omega,by omega⟩ (by omega) (Le.mk _ _ ?_ ?_)
         · simp [num]
           exact ⟨by omega,wrap_i64 (by omega) (by omega)⟩
         · simp
     · have e1:i=l.length:=by omega
       subst e1
       rw [List.take_length] at *
       rw [cut_pos (by omega)]
       simp [num]
       omega
theorem g_eqRuleS (l:List LRule) (hx:bdS 1048576 (bdRule 1048576) l):CallOK Tryz.prog 89 [.val (.list 2 (l.map rvRule)),.val (.list 2 (l.map rvRule))] (.ret (.val (.bool true)) []) []:=by
 refine call_val mixed ok89 rfl (fun _=>rfl) ?_
 unfold ir89
 rw [evalC_intro]
 have hl:l.length≤1048576:=hx.1
 simp [initSt,avPVs,avPV,avBoxesL,avBoxes,num]
 refine loop_EC (X:=Nat) (fun i=>⟨envOf [(0,.val (.list 2 (l.map rvRule))),(1,.val (.list 2 (l.map rvRule))),(5,.val (num i))],memOf []⟩) (fun i=>i≤l.length) (fun i=>l.length - i) 0 (Le.mk _ _ ?_ ?_) ?_ ?_
 · simp [upd,num,PV.kill]
 · simp
 · simp
 · intro i hi
   simp [num]
   refine iteP_intro (fun h1=>?_) (fun h1=>?_)
   · have e1:(l.map rvRule)[i]?.getD .nilptr=rvRule l[i]:=by simp [List.getElem?_eq_getElem h1]
     simp [num,h1,e1,rvRule,tx]
     refine callS_val rfl rfl (.inl rfl) (g_eqRule l[i] (hx.2 _ (List.getElem_mem h1))) ?_
     simp
     refine LoopNext.mk (i+1) (by omega) (by omega) (Le.mk _ _ ?_ ?_)
     · simp [num];exact wrap_i64 (by omega) (by omega)
     · simp
   · simp
theorem g_szPolicy (x:LPolicy) (left:Int) (h0:0≤left) (h1:left≤1048576) (hx:bdPolicy 9223372036854775807 x):CallOK Tryz.prog 32 [.val (rvPolicy x),.val (num left)] (.ret (.val (num (cut left (zPolicy x)))) []) []:=by
 refine call_val mixed ok32 rfl (fun _=>rfl) ?_
 unfold ir32
 rw [evalC_intro]
 unfold bdPolicy at hx
 obtain ⟨b0,b1,b2⟩:=hx
 unfold zPolicy
 have w0:IntKind.i64.wrap (left - ((x.reportTo.length:Nat):Int))=left - ((x.reportTo.length:Nat):Int):=wrap_i64 (by omega) (by omega)
 by_cases k0:left - ((x.reportTo.length:Nat):Int) < 0
 · rw [cut_neg (by omega)]
   simp [initSt,avPVs,avPV,avBoxesL,avBoxes,rvPolicy,tx,num,bs_size,allVal,w0,k0]
 · simp [initSt,avPVs,avPV,avBoxesL,avBoxes,rvPolicy,tx,num,bs_size,allVal,w0,k0]
   refine callS_val rfl rfl (.inl rfl) (g_szStringS x.uris (left - (x.reportTo.length:Nat)) (by omega) (by omega) b1) ?_
   by_cases k1:(left - (x.reportTo.length:Nat)) - ((zS List.length x.uris:Nat):Int) < 0
   · first | rw [cut_neg (by omega),cut_neg (by omega)] | rw [cut_neg (by omega)]
     simp [rvPolicy,tx,num,bs_size,allVal]
   · rw [cut_pos (show ¬ (left - (x.reportTo.length:Nat)) - ((zS List.length x.uris:Nat):Int) < 0 by omega)]
     simp [rvPolicy,tx,num,bs_size,allVal,k0,k1]
     refine callS_val rfl rfl (.inl rfl) (g_szRuleS x.rules (left - (x.reportTo.length:Nat) - (zS List.length x.uris:Nat)) (by omega) (by omega) b2) ?_
     by_cases k2:(left - (x.reportTo.length:Nat) - (zS List.length x.uris:Nat)) - ((zS zRule x.rules:Nat):Int) < 0
     · first | rw [cut_neg (by omega),cut_neg (by omega)] | rw [cut_neg (by omega)]
       simp [rvPolicy,tx,num,bs_size,allVal]
     · first | rw [cut_pos (by omega),cut_pos (by omega)] | rw [cut_pos (by omega)]
       simp [rvPolicy,tx,num,bs_size,allVal,k0,k1,k2]
       try omega
theorem g_eqPolicy (x:LPolicy) (hx:bdPolicy 1048576 x):CallOK Tryz.prog 44 [.val (rvPolicy x),.val (rvPolicy x)] (.ret (.val (.bool true)) []) []:=by
 refine call_val mixed ok44 rfl (fun _=>rfl) ?_
 unfold ir44
 rw [evalC_intro]
 unfold bdPolicy at hx
 obtain ⟨b0,b1,b2⟩:=hx
 simp [initSt,avPVs,avPV,avBoxesL,avBoxes,rvPolicy,tx,num,allVal]
 refine callS_val rfl rfl (.inl rfl) (g_eqStringS x.uris b1) ?_
 simp [rvPolicy,tx,num,allVal]
 refine callS_val rfl rfl (.inl rfl) (g_eqRuleS x.rules b2) ?_
 simp [rvPolicy,tx,num,allVal]
end Go.Proofs
end
section
namespace Go.Proofs
open Go.PW Go.KP
attribute [local simp] RV.cells RV.one PV.cells PV.solid PV.one vals? allVal mkAgg setAt RV.ofCells elems PV.killL
variable [GF]
theorem g_szTarget (x:LTarget) (left:Int) (h0:0≤left) (h1:left≤1048576) (hx:bdTarget 9223372036854775807 x):CallOK Tryz.prog 189 [.val (rvTarget x),.val (num left)] (.ret (.val (num (cut left (zTarget x)))) []) []:=by
 refine call_val mixed ok189 rfl (fun _=>rfl) ?_
 unfold ir189
 rw [evalC_intro]
 unfold bdTarget at hx
 have b0:=hx
 unfold zTarget
 have w0:IntKind.i64.wrap (left - ((x.url.length:Nat):Int))=left - ((x.url.length:Nat):Int):=wrap_i64 (by omega) (by omega)
 by_cases k0:left - ((x.url.length:Nat):Int) < 0
 · rw [cut_neg (by omega)]
   simp [initSt,avPVs,avPV,avBoxesL,avBoxes,rvTarget,tx,num,bs_size,allVal,w0,k0]
 · rw [cut_pos (by omega)]
   simp [initSt,avPVs,avPV,avBoxesL,avBoxes,rvTarget,tx,num,bs_size,allVal,w0,k0]
   try omega
theorem g_toTarget (x:LTarget) (hx:bdTarget 1048576 x):CallOK Tryz.prog 194 [.val (rvTarget x)] (.ret (.val (rvTarget x)) []) []:=by
 refine call_val mixed ok194 rfl (fun _=>rfl) ?_
 unfold ir194
 rw [evalC_intro]
 unfold bdTarget at hx
 have b0:=hx
 simp [initSt,avPVs,avPV,avBoxesL,avBoxes,rvTarget,tx,num,allVal]
 refine (resP_c (id:=2) (n:=3) (rs:=[tx x.url,num x.prio,num x.weight]) ?_ ?_ rfl (by omega)).trans ?_
 · simp
 · simp [tx,num]
 · simp [rvTarget,tx,num,allVal]
theorem g_eqTarget (x:LTarget) (hx:bdTarget 1048576 x):CallOK Tryz.prog 207 [.val (rvTarget x),.val (rvTarget x)] (.ret (.val (.bool true)) []) []:=by
 refine call_val mixed ok207 rfl (fun _=>rfl) ?_
 unfold ir207
 rw [evalC_intro]
 unfold bdTarget at hx
 have b0:=hx
 simp [initSt,avPVs,avPV,avBoxesL,avBoxes,rvTarget,tx,num,allVal]
theorem g_szTargetS (l:List LTarget) (left:Int) (h0:0≤left) (h1:left≤1048576) (hx:bdS 9223372036854775807 (bdTarget 9223372036854775807) l):CallOK Tryz.prog 144 [.val (.list 3 (l.map rvTarget)),.val (num left)] (.ret (.val (num (cut left (zS zTarget l)))) []) []:=by
 refine call_val mixed ok144 rfl (fun _=>rfl) ?_
 unfold ir144
 rw [evalC_intro]
 have hl:l.length≤9223372036854775807:=hx.1
 have hw:IntKind.i64.wrap (left - (l.length:Int))=left - l.length:=wrap_i64 (by omega) (by omega)
 have hzs:zS zTarget l=l.length+lsum zTarget l:=rfl
 by_cases h:left - (l.length:Int) < 0
 · rw [cut_neg (by omega)]
   simp [initSt,avPVs,avPV,avBoxesL,avBoxes,num,hw,h]
 · simp [initSt,avPVs,avPV,avBoxesL,avBoxes,num,hw,h]
   refine loop_EC (X:=Nat) (fun i=>⟨envOf [(0,.val (.list 3 (l.map rvTarget))),(1,.val (num (left - l.length - (lsum zTarget (l.take i):Nat)))),(5,.val (num i))],memOf []⟩) (fun i=>i≤l.length∧0≤left - l.length - (lsum zTarget (l.take i):Nat)) (fun i=>l.length - i) 0 (Le.mk _ _ ?_ ?_) ?_ ?_
   · simp [upd,num,lsum,PV.kill]
   · simp
   · simp [lsum];omega
   · rintro i ⟨hi,hg⟩
     simp [num]
     refine iteP_intro (fun h2=>?_) (fun h2=>?_)
     · have e1:(l.map rvTarget)[i]?.getD .nilptr=rvTarget l[i]:=by simp [List.getElem?_eq_getElem h2]
       have hsn:lsum zTarget (l.take (i+1))=lsum zTarget (l.take i)+zTarget l[i]:=lsum_take _ h2
       have hle:=lsum_le (f:=zTarget) l (i+1)
       simp [num,h2,e1,rvTarget,tx]
       refine callS_val rfl rfl (.inl rfl) (g_szTarget l[i] (left - l.length - (lsum zTarget (l.take i):Nat)) (by omega) (by omega) (hx.2 _ (List.getElem_mem h2))) ?_
       by_cases h3:left - (l.length:Int) - (lsum zTarget (l.take i):Int) - (zTarget l[i]:Int) < 0
       · have c1:cut (left - l.length - (lsum zTarget (l.take i):Nat)) (zTarget l[i])=-1:=cut_neg (by omega)
         have c2:cut left (zS zTarget l)=-1:=cut_neg (by omega)
         rw [c1,c2]
         simp [num]
       · have c1:cut (left - l.length - (lsum zTarget (l.take i):Nat)) (zTarget l[i])=left - l.length - (lsum zTarget (l.take i):Nat) - (zTarget l[i]:Nat):=cut_pos (by omega)
         rw [c1]
         simp [num,h3]
         refine LoopNext.mk (i+1) ⟨by omega,by omega⟩ (by omega) (Le.mk _ _ ?_ ?_)
         · simp [num]
           exact ⟨by omega,wrap_i64 (by omega) (by omega)⟩
         · simp
     · have e1:i=l.length:=by omega
       subst e1
       rw [List.take_length] at *
       rw [cut_pos (by omega)]
       simp [num]
       omega
theorem g_eqTargetS (l:List LTarget) (hx:bdS 1048576 (bdTarget 1048576) l):CallOK Tryz.prog 175 [.val (.list 3 (l.map rvTarget)),.val (.list 3 (l.map rvTarget))] (.ret (.val (.bool true)) []) []:=by
 refine call_val mixed ok175 rfl (fun _=>rfl) ?_
 unfold ir175
 rw [evalC_intro]
 have hl:l.length≤1048576:=hx.1
 simp [initSt,avPVs,avPV,avBoxesL,avBoxes,num]
 refine loop_EC (X:=Nat) (fun i=>⟨envOf [(0,.val (.list 3 (l.map rvTarget))),(1,.val (.list 3 (l.map rvTarget))),(5,.val (num i))],memOf []⟩) (fun i=>i≤l.length) (fun i=>l.length - i) 0 (Le.mk _ _ ?_ ?_) ?_ ?_
 · simp [upd,num,PV.kill]
 · simp
 · simp
 · intro i hi
   simp [num]
   refine iteP_intro (fun h1=>?_) (fun h1=>?_)
   · have e1:(l.map rvTarget)[i]?.getD .nilptr=rvTarget l[i]:=by simp [List.getElem?_eq_getElem h1]
     simp [num,h1,e1,rvTarget,tx]
     refine callS_val rfl rfl (.inl rfl) (g_eqTarget l[i] (hx.2 _ (List.getElem_mem h1))) ?_
     simp
     refine LoopNext.mk (i+1) (by omega) (by omega) (Le.mk _ _ ?_ ?_)
     · simp [num];exact wrap_i64 (by omega) (by omega)
     · simp
   · simp
theorem g_szGroup (x:LGroup) (left:Int) (h0:0≤left) (h1:left≤1048576) (hx:bdGroup 9223372036854775807 x):CallOK Tryz.prog 102 [.val (rvGroup x),.val (num left)] (.ret (.val (num (cut left (zGroup x)))) []) []:=by
 refine call_val mixed ok102 rfl (fun _=>rfl) ?_
 unfold ir102
 rw [evalC_intro]
 unfold bdGroup at hx
 obtain ⟨b0,b1⟩:=hx
 unfold zGroup
 have w0:IntKind.i64.wrap (left - ((x.name.length:Nat):Int))=left - ((x.name.length:Nat):Int):=wrap_i64 (by omega) (by omega)
 by_cases k0:left - ((x.name.length:Nat):Int) < 0
 · rw [cut_neg (by omega)]
   simp [initSt,avPVs,avPV,avBoxesL,avBoxes,rvGroup,tx,num,bs_size,allVal,w0,k0]
 · simp [initSt,avPVs,avPV,avBoxesL,avBoxes,rvGroup,tx,num,bs_size,allVal,w0,k0]
   refine callS_val rfl rfl (.inl rfl) (g_szTargetS x.targets (left - (x.name.length:Nat)) (by omega) (by omega) b1) ?_
   by_cases k1:(left - (x.name.length:Nat)) - ((zS zTarget x.targets:Nat):Int) < 0
   · first | rw [cut_neg (by omega),cut_neg (by omega)] | rw [cut_neg (by omega)]
     simp [rvGroup,tx,num,bs_size,allVal]
   · first | rw [cut_pos (by omega),cut_pos (by omega)] | rw [cut_pos (by omega)]
     simp [rvGroup,tx,num,bs_size,allVal,k0,k1]
     try omega
theorem g_eqGroup (x:LGroup) (hx:bdGroup 1048576 x):CallOK Tryz.prog 138 [.val (rvGroup x),.val (rvGroup x)] (.ret (.val (.bool true)) []) []:=by
 refine call_val mixed ok138 rfl (fun _=>rfl) ?_
 unfold ir138
 rw [evalC_intro]
 unfold bdGroup at hx
 obtain ⟨b0,b1⟩:=hx
 simp [initSt,avPVs,avPV,avBoxesL,avBoxes,rvGroup,tx,num,allVal]
 refine callS_val rfl rfl (.inl rfl) (g_eqTargetS x.targets b1) ?_
 simp [rvGroup,tx,num,allVal]
end Go.Proofs
end
section
namespace Go.Proofs
open Go.PW Go.KP
attribute [local simp] RV.cells RV.one PV.cells PV.solid PV.one vals? allVal mkAgg setAt RV.ofCells elems PV.killL
variable [GF]
theorem g_szIntS (l:List Int) (left:Int) (h0:0≤left) (h1:left≤1048576) (hl:l.length≤9223372036854775807):CallOK Tryz.prog 106 [.val (.list 1 (l.map num)),.val (num left)] (.ret (.val (num (cut left l.length))) []) []:=by
 refine call_val mixed ok106 rfl (fun _=>rfl) ?_
 unfold ir106
 rw [evalC_intro]
 have hw:IntKind.i64.wrap (left - (l.length:Int))=left - l.length:=wrap_i64 (by omega) (by omega)
 by_cases h:left - (l.length:Int) < 0
 · rw [cut_neg (by omega)]
   simp [initSt,avPVs,avPV,avBoxesL,avBoxes,num,hw,h]
 · rw [cut_pos (by omega)]
   simp [initSt,avPVs,avPV,avBoxesL,avBoxes,num,hw,h]
theorem g_eqIntS (l:List Int) (hx:l.length≤1048576):CallOK Tryz.prog 24 [.val (.list 1 (l.map num)),.val (.list 1 (l.map num))] (.ret (.val (.bool true)) []) []:=by
 refine call_val mixed ok24 rfl (fun _=>rfl) ?_
 unfold ir24
 rw [evalC_intro]
 have hl:l.length≤1048576:=hx
 simp [initSt,avPVs,avPV,avBoxesL,avBoxes,num]
 refine loop_EC (X:=Nat) (fun i=>⟨envOf [(0,.val (.list 1 (l.map num))),(1,.val (.list 1 (l.map num))),(5,.val (num i))],memOf []⟩) (fun i=>i≤l.length) (fun i=>l.length - i) 0 (Le.mk _ _ ?_ ?_) ?_ ?_
 · simp [upd,num,PV.kill]
 · simp
 · simp
 · intro i hi
   simp [num]
   refine iteP_intro (fun h1=>?_) (fun h1=>?_)
   · have e1:(l.map num)[i]?.getD .nilptr=num l[i]:=by simp [List.getElem?_eq_getElem h1]
     simp [num,h1,e1,tx]
     refine LoopNext.mk (i+1) (by omega) (by omega) (Le.mk _ _ ?_ ?_)
     · simp [num];exact wrap_i64 (by omega) (by omega)
     · simp
   · simp
theorem g_szReport (x:LReport) (left:Int) (h0:0≤left) (h1:left≤1048576) (hx:bdReport 9223372036854775807 x):CallOK Tryz.prog 190 [.val (rvReport x),.val (num left)] (.ret (.val (num (cut left (zReport x)))) []) []:=by
 refine call_val mixed ok190 rfl (fun _=>rfl) ?_
 unfold ir190
 rw [evalC_intro]
 unfold bdReport at hx
 have b0:=hx
 unfold zReport
 have w0:IntKind.i64.wrap (left - ((x.body.length:Nat):Int))=left - ((x.body.length:Nat):Int):=wrap_i64 (by omega) (by omega)
 by_cases k0:left - ((x.body.length:Nat):Int) < 0
 · rw [cut_neg (by omega)]
   simp [initSt,avPVs,avPV,avBoxesL,avBoxes,rvReport,tx,num,bs_size,allVal,w0,k0]
 · rw [cut_pos (by omega)]
   simp [initSt,avPVs,avPV,avBoxesL,avBoxes,rvReport,tx,num,bs_size,allVal,w0,k0]
   try omega
theorem g_toReport (x:LReport) (hx:bdReport 1048576 x):CallOK Tryz.prog 195 [.val (rvReport x)] (.ret (.val (rvReport x)) []) []:=by
 refine call_val mixed ok195 rfl (fun _=>rfl) ?_
 unfold ir195
 rw [evalC_intro]
 unfold bdReport at hx
 have b0:=hx
 simp [initSt,avPVs,avPV,avBoxesL,avBoxes,rvReport,tx,num,allVal]
 refine (resP_c (id:=2) (n:=4) (rs:=[num x.id,num x.born,num x.tries,tx x.body]) ?_ ?_ rfl (by omega)).trans ?_
 · simp
 · simp [tx,num]
 · simp [rvReport,tx,num,allVal]
theorem g_eqReport (x:LReport) (hx:bdReport 1048576 x):CallOK Tryz.prog 208 [.val (rvReport x),.val (rvReport x)] (.ret (.val (.bool true)) []) []:=by
 refine call_val mixed ok208 rfl (fun _=>rfl) ?_
 unfold ir208
 rw [evalC_intro]
 unfold bdReport at hx
 have b0:=hx
 simp [initSt,avPVs,avPV,avBoxesL,avBoxes,rvReport,tx,num,allVal]
theorem g_szReportS (l:List LReport) (left:Int) (h0:0≤left) (h1:left≤1048576) (hx:bdS 9223372036854775807 (bdReport 9223372036854775807) l):CallOK Tryz.prog 146 [.val (.list 4 (l.map rvReport)),.val (num left)] (.ret (.val (num (cut left (zS zReport l)))) []) []:=by
 refine call_val mixed ok146 rfl (fun _=>rfl) ?_
 unfold ir146
 rw [evalC_intro]
 have hl:l.length≤9223372036854775807:=hx.1
 have hw:IntKind.i64.wrap (left - (l.length:Int))=left - l.length:=wrap_i64 (by omega) (by omega)
 have hzs:zS zReport l=l.length+lsum zReport l:=rfl
 by_cases h:left - (l.length:Int) < 0
 · rw [cut_neg (by omega)]
   simp [initSt,avPVs,avPV,avBoxesL,avBoxes,num,hw,h]
 · simp [initSt,avPVs,avPV,avBoxesL,avBoxes,num,hw,h]
   refine loop_EC (X:=Nat) (fun i=>⟨envOf [(0,.val (.list 4 (l.map rvReport))),(1,.val (num (left - l.length - (lsum zReport (l.take i):Nat)))),(5,.val (num i))],memOf []⟩) (fun i=>i≤l.length∧0≤left - l.length - (lsum zReport (l.take i):Nat)) (fun i=>l.length - i) 0 (Le.mk _ _ ?_ ?_) ?_ ?_
   · simp [upd,num,lsum,PV.kill]
   · simp
   · simp [lsum];omega
   · rintro i ⟨hi,hg⟩
     simp [num]
     refine iteP_intro (fun h2=>?_) (fun h2=>?_)
     · have e1:(l.map rvReport)[i]?.getD .nilptr=rvReport l[i]:=by simp [List.getElem?_eq_getElem h2]
       have hsn:lsum zReport (l.take (i+1))=lsum zReport (l.take i)+zReport l[i]:=lsum_take _ h2
       have hle:=lsum_le (f:=zReport) l (i+1)
       simp [num,h2,e1,rvReport,tx]
       refine callS_val rfl rfl (.inl rfl) (g_szReport l[i] (left - l.length - (lsum zReport (l.take i):Nat)) (by omega) (by omega) (hx.2 _ (List.getElem_mem h2))) ?_
       by_cases h3:left - (l.length:Int) - (lsum zReport (l.take i):Int) - (zReport l[i]:Int) < 0
       · have c1:cut (left - l.length - (lsum zReport (l.take i):Nat)) (zReport l[i])=-1:=cut_neg (by omega)
         have c2:cut left (zS zReport l)=-1:=cut_neg (by omega)
         rw [c1,c2]
         simp [num]
       · have c1:cut (left - l.length - (lsum zReport (l.take i):Nat)) (zReport l[i])=left - l.length - (lsum zReport (l.take i):Nat) - (zReport l[i]:Nat):=cut_pos (by omega)
         rw [c1]
         simp [num,h3]
         refine LoopNext.mk (i+1) ⟨by omega,by omega⟩ (by omega) (Le.mk _ _ ?_ ?_)
         · simp [num]
           exact ⟨by omega,wrap_i64 (by omega) (by omega)⟩
         · simp
     · have e1:i=l.length:=by omega
       subst e1
       rw [List.take_length] at *
       rw [cut_pos (by omega)]
       simp [num]
       omega
theorem g_eqReportS (l:List LReport) (hx:bdS 1048576 (bdReport 1048576) l):CallOK Tryz.prog 177 [.val (.list 4 (l.map rvReport)),.val (.list 4 (l.map rvReport))] (.ret (.val (.bool true)) []) []:=by
 refine call_val mixed ok177 rfl (fun _=>rfl) ?_
 unfold ir177
 rw [evalC_intro]
 have hl:l.length≤1048576:=hx.1
 simp [initSt,avPVs,avPV,avBoxesL,avBoxes,num]
 refine loop_EC (X:=Nat) (fun i=>⟨envOf [(0,.val (.list 4 (l.map rvReport))),(1,.val (.list 4 (l.map rvReport))),(5,.val (num i))],memOf []⟩) (fun i=>i≤l.length) (fun i=>l.length - i) 0 (Le.mk _ _ ?_ ?_) ?_ ?_
 · simp [upd,num,PV.kill]
 · simp
 · simp
 · intro i hi
   simp [num]
   refine iteP_intro (fun h1=>?_) (fun h1=>?_)
   · have e1:(l.map rvReport)[i]?.getD .nilptr=rvReport l[i]:=by simp [List.getElem?_eq_getElem h1]
     simp [num,h1,e1,rvReport,tx]
     refine callS_val rfl rfl (.inl rfl) (g_eqReport l[i] (hx.2 _ (List.getElem_mem h1))) ?_
     simp
     refine LoopNext.mk (i+1) (by omega) (by omega) (Le.mk _ _ ?_ ?_)
     · simp [num];exact wrap_i64 (by omega) (by omega)
     · simp
   · simp
theorem g_szQueue (x:LQueue) (left:Int) (h0:0≤left) (h1:left≤1048576) (hx:bdQueue 9223372036854775807 x):CallOK Tryz.prog 104 [.val (rvQueue x),.val (num left)] (.ret (.val (num (cut left (zQueue x)))) []) []:=by
 refine call_val mixed ok104 rfl (fun _=>rfl) ?_
 unfold ir104
 rw [evalC_intro]
 unfold bdQueue at hx
 obtain ⟨b0,b1⟩:=hx
 unfold zQueue
 simp [initSt,avPVs,avPV,avBoxesL,avBoxes,rvQueue,tx,num,bs_size,allVal]
 refine callS_val rfl rfl (.inl rfl) (g_szReportS x.items left (by omega) (by omega) b0) ?_
 by_cases k0:left - ((zS zReport x.items:Nat):Int) < 0
 · first | rw [cut_neg (by omega),cut_neg (by omega)] | rw [cut_neg (by omega)]
   simp [rvQueue,tx,num,bs_size,allVal]
 · rw [cut_pos (show ¬ left - ((zS zReport x.items:Nat):Int) < 0 by omega)]
   simp [rvQueue,tx,num,bs_size,allVal,k0]
   refine callS_val rfl rfl (.inl rfl) (g_szStringS x.recent (left - (zS zReport x.items:Nat)) (by omega) (by omega) b1) ?_
   by_cases k1:(left - (zS zReport x.items:Nat)) - ((zS List.length x.recent:Nat):Int) < 0
   · first | rw [cut_neg (by omega),cut_neg (by omega)] | rw [cut_neg (by omega)]
     simp [rvQueue,tx,num,bs_size,allVal]
   · first | rw [cut_pos (by omega),cut_pos (by omega)] | rw [cut_pos (by omega)]
     simp [rvQueue,tx,num,bs_size,allVal,k0,k1]
     try omega
theorem g_eqQueue (x:LQueue) (hx:bdQueue 1048576 x):CallOK Tryz.prog 140 [.val (rvQueue x),.val (rvQueue x)] (.ret (.val (.bool true)) []) []:=by
 refine call_val mixed ok140 rfl (fun _=>rfl) ?_
 unfold ir140
 rw [evalC_intro]
 unfold bdQueue at hx
 obtain ⟨b0,b1⟩:=hx
 simp [initSt,avPVs,avPV,avBoxesL,avBoxes,rvQueue,tx,num,allVal]
 refine callS_val rfl rfl (.inl rfl) (g_eqReportS x.items b0) ?_
 simp [rvQueue,tx,num,allVal]
 refine callS_val rfl rfl (.inl rfl) (g_eqStringS x.recent b1) ?_
 simp [rvQueue,tx,num,allVal]
theorem g_szPeer (x:LPeer) (left:Int) (h0:0≤left) (h1:left≤1048576) (hx:bdPeer 9223372036854775807 x):CallOK Tryz.prog 145 [.val (rvPeer x),.val (num left)] (.ret (.val (num (cut left (zPeer x)))) []) []:=by
 refine call_val mixed ok145 rfl (fun _=>rfl) ?_
 unfold ir145
 rw [evalC_intro]
 unfold bdPeer at hx
 have b0:=hx
 unfold zPeer
 simp [initSt,avPVs,avPV,avBoxesL,avBoxes,rvTarget,rvPeer,tx,num,bs_size,allVal]
 refine callS_val rfl rfl (.inl rfl) (g_szTarget x.target left (by omega) (by omega) b0) ?_
 by_cases k0:left - ((zTarget x.target:Nat):Int) < 0
 · first | rw [cut_neg (by omega),cut_neg (by omega)] | rw [cut_neg (by omega)]
   simp [rvTarget,rvPeer,tx,num,bs_size,allVal]
 · first | rw [cut_pos (by omega),cut_pos (by omega)] | rw [cut_pos (by omega)]
   simp [rvTarget,rvPeer,tx,num,bs_size,allVal,k0]
   try omega
theorem g_toPeer (x:LPeer) (hx:bdPeer 1048576 x):CallOK Tryz.prog 156 [.val (rvPeer x)] (.ret (.val (rvPeer x)) []) []:=by
 refine call_val mixed ok156 rfl (fun _=>rfl) ?_
 unfold ir156
 rw [evalC_intro]
 unfold bdPeer at hx
 have b0:=hx
 simp [initSt,avPVs,avPV,avBoxesL,avBoxes,rvTarget,rvPeer,tx,num,allVal]
 refine callS_val rfl rfl (.inl rfl) (g_toTarget x.target b0) ?_
 simp [rvTarget,rvPeer,tx,num,allVal]
 refine (resP_c (id:=2) (n:=6) (rs:=[tx x.target.url,num x.target.prio,num x.target.weight,num x.fails,num x.retry,.bool x.gone]) ?_ ?_ rfl (by omega)).trans ?_
 · simp
 · simp [tx,num]
 · simp [rvTarget,rvPeer,tx,num,allVal]
theorem g_eqPeer (x:LPeer) (hx:bdPeer 1048576 x):CallOK Tryz.prog 176 [.val (rvPeer x),.val (rvPeer x)] (.ret (.val (.bool true)) []) []:=by
 refine call_val mixed ok176 rfl (fun _=>rfl) ?_
 unfold ir176
 rw [evalC_intro]
 unfold bdPeer at hx
 have b0:=hx
 simp [initSt,avPVs,avPV,avBoxesL,avBoxes,rvTarget,rvPeer,tx,num,allVal]
 refine callS_val rfl rfl (.inl rfl) (g_eqTarget x.target b0) ?_
 simp [rvTarget,rvPeer,tx,num,allVal]
theorem g_szPeerS (l:List LPeer) (left:Int) (h0:0≤left) (h1:left≤1048576) (hx:bdS 9223372036854775807 (bdPeer 9223372036854775807) l):CallOK Tryz.prog 103 [.val (.list 6 (l.map rvPeer)),.val (num left)] (.ret (.val (num (cut left (zS zPeer l)))) []) []:=by
 refine call_val mixed ok103 rfl (fun _=>rfl) ?_
 unfold ir103
 rw [evalC_intro]
 have hl:l.length≤9223372036854775807:=hx.1
 have hw:IntKind.i64.wrap (left - (l.length:Int))=left - l.length:=wrap_i64 (by omega) (by omega)
 have hzs:zS zPeer l=l.length+lsum zPeer l:=rfl
 by_cases h:left - (l.length:Int) < 0
 · rw [cut_neg (by omega)]
   simp [initSt,avPVs,avPV,avBoxesL,avBoxes,num,hw,h]
 · simp [initSt,avPVs,avPV,avBoxesL,avBoxes,num,hw,h]
   refine loop_EC (X:=Nat) (fun i=>⟨envOf [(0,.val (.list 6 (l.map rvPeer))),(1,.val (num (left - l.length - (lsum zPeer (l.take i):Nat)))),(5,.val (num i))],memOf []⟩) (fun i=>i≤l.length∧0≤left - l.length - (lsum zPeer (l.take i):Nat)) (fun i=>l.length - i) 0 (Le.mk _ _ ?_ ?_) ?_ ?_
   · simp [upd,num,lsum,PV.kill]
   · simp
   · simp [lsum];omega
   · rintro i ⟨hi,hg⟩
     simp [num]
     refine iteP_intro (fun h2=>?_) (fun h2=>?_)
     · have e1:(l.map rvPeer)[i]?.getD .nilptr=rvPeer l[i]:=by simp [List.getElem?_eq_getElem h2]
       have hsn:lsum zPeer (l.take (i+1))=lsum zPeer (l.take i)+zPeer l[i]:=lsum_take _ h2
       have hle:=lsum_le (f:=zPeer) l (i+1)
       simp [num,h2,e1,rvTarget,rvPeer,tx]
       refine callS_val rfl rfl (.inl rfl) (g_szPeer l[i] (left - l.length - (lsum zPeer (l.take i):Nat)) (by omega) (by omega) (hx.2 _ (List.getElem_mem h2))) ?_
       by_cases h3:left - (l.length:Int) - (lsum zPeer (l.take i):Int) - (zPeer l[i]:Int) < 0
       · have c1:cut (left - l.length - (lsum zPeer (l.take i):Nat)) (zPeer l[i])=-1:=cut_neg (by omega)
         have c2:cut left (zS zPeer l)=-1:=cut_neg (by omega)
         rw [c1,c2]
         simp [num]
       · have c1:cut (left - l.length - (lsum zPeer (l.take i):Nat)) (zPeer l[i])=left - l.length - (lsum zPeer (l.take i):Nat) - (zPeer l[i]:Nat):=cut_pos (by omega)
         rw [c1]
         simp [num,h3]
         refine LoopNext.mk (i+1) ⟨by omega,by omega⟩ (by omega) (Le.mk _ _ ?_ ?_)
         · simp [num]
           exact ⟨by omega,wrap_i64 (by omega) (by omega)⟩
         · simp
     · have e1:i=l.length:=by omega
       subst e1
       rw [List.take_length] at *
       rw [cut_pos (by omega)]
       simp [num]
       omega
theorem g_eqPeerS (l:List LPeer) (hx:bdS 1048576 (bdPeer 1048576) l):CallOK Tryz.prog 139 [.val (.list 6 (l.map rvPeer)),.val (.list 6 (l.map rvPeer))] (.ret (.val (.bool true)) []) []:=by
 refine call_val mixed ok139 rfl (fun _=>rfl) ?_
 unfold ir139
 rw [evalC_intro]
 have hl:l.length≤1048576:=hx.1
 simp [initSt,avPVs,avPV,avBoxesL,avBoxes,num]
 refine loop_EC (X:=Nat) (fun i=>⟨envOf [(0,.val (.list 6 (l.map rvPeer))),(1,.val (.list 6 (l.map rvPeer))),(5,.val (num i))],memOf []⟩) (fun i=>i≤l.length) (fun i=>l.length - i) 0 (Le.mk _ _ ?_ ?_) ?_ ?_
 · simp [upd,num,PV.kill]
 · simp
 · simp
 · intro i hi
   simp [num]
   refine iteP_intro (fun h1=>?_) (fun h1=>?_)
   · have e1:(l.map rvPeer)[i]?.getD .nilptr=rvPeer l[i]:=by simp [List.getElem?_eq_getElem h1]
     simp [num,h1,e1,rvTarget,rvPeer,tx]
     refine callS_val rfl rfl (.inl rfl) (g_eqPeer l[i] (hx.2 _ (List.getElem_mem h1))) ?_
     simp
     refine LoopNext.mk (i+1) (by omega) (by omega) (Le.mk _ _ ?_ ?_)
     · simp [num];exact wrap_i64 (by omega) (by omega)
     · simp
   · simp
theorem g_szChannel (x:LChannel) (left:Int) (h0:0≤left) (h1:left≤1048576) (hx:bdChannel 9223372036854775807 x):CallOK Tryz.prog 67 [.val (rvChannel x),.val (num left)] (.ret (.val (num (cut left (zChannel x)))) []) []:=by
 refine call_val mixed ok67 rfl (fun _=>rfl) ?_
 unfold ir67
 rw [evalC_intro]
 unfold bdChannel at hx
 obtain ⟨b0,b1,b2⟩:=hx
 unfold zChannel
 simp [initSt,avPVs,avPV,avBoxesL,avBoxes,rvGroup,rvQueue,rvChannel,tx,num,bs_size,allVal]
 refine callS_val rfl rfl (.inl rfl) (g_szGroup x.group left (by omega) (by omega) b0) ?_
 by_cases k0:left - ((zGroup x.group:Nat):Int) < 0
 · first | rw [cut_neg (by omega),cut_neg (by omega)] | rw [cut_neg (by omega)]
   simp [rvGroup,rvQueue,rvChannel,tx,num,bs_size,allVal]
 · rw [cut_pos (show ¬ left - ((zGroup x.group:Nat):Int) < 0 by omega)]
   simp [rvGroup,rvQueue,rvChannel,tx,num,bs_size,allVal,k0]
   refine callS_val rfl rfl (.inl rfl) (g_szPeerS x.peers (left - (zGroup x.group:Nat)) (by omega) (by omega) b1) ?_
   by_cases k1:(left - (zGroup x.group:Nat)) - ((zS zPeer x.peers:Nat):Int) < 0
   · first | rw [cut_neg (by omega),cut_neg (by omega)] | rw [cut_neg (by omega)]
     simp [rvGroup,rvQueue,rvChannel,tx,num,bs_size,allVal]
   · rw [cut_pos (show ¬ (left - (zGroup x.group:Nat)) - ((zS zPeer x.peers:Nat):Int) < 0 by omega)]
     simp [rvGroup,rvQueue,rvChannel,tx,num,bs_size,allVal,k0,k1]
     refine callS_val rfl rfl (.inl rfl) (g_szQueue x.queue (left - (zGroup x.group:Nat) - (zS zPeer x.peers:Nat)) (by omega) (by omega) b2) ?_
     by_cases k2:(left - (zGroup x.group:Nat) - (zS zPeer x.peers:Nat)) - ((zQueue x.queue:Nat):Int) < 0
     · first | rw [cut_neg (by omega),cut_neg (by omega)] | rw [cut_neg (by omega)]
       simp [rvGroup,rvQueue,rvChannel,tx,num,bs_size,allVal]
     · first | rw [cut_pos (by omega),cut_pos (by omega)] | rw [cut_pos (by omega)]
       simp [rvGroup,rvQueue,rvChannel,tx,num,bs_size,allVal,k0,k1,k2]
       try omega
theorem g_eqChannel (x:LChannel) (hx:bdChannel 1048576 x):CallOK Tryz.prog 87 [.val (rvChannel x),.val (rvChannel x)] (.ret (.val (.bool true)) []) []:=by
 refine call_val mixed ok87 rfl (fun _=>rfl) ?_
 unfold ir87
 rw [evalC_intro]
 unfold bdChannel at hx
 obtain ⟨b0,b1,b2⟩:=hx
 simp [initSt,avPVs,avPV,avBoxesL,avBoxes,rvGroup,rvQueue,rvChannel,tx,num,allVal]
 refine callS_val rfl rfl (.inl rfl) (g_eqGroup x.group b0) ?_
 simp [rvGroup,rvQueue,rvChannel,tx,num,allVal]
 refine callS_val rfl rfl (.inl rfl) (g_eqPeerS x.peers b1) ?_
 simp [rvGroup,rvQueue,rvChannel,tx,num,allVal]
 refine callS_val rfl rfl (.inl rfl) (g_eqQueue x.queue b2) ?_
 simp [rvGroup,rvQueue,rvChannel,tx,num,allVal]
theorem g_szChannelS (l:List LChannel) (left:Int) (h0:0≤left) (h1:left≤1048576) (hx:bdS 9223372036854775807 (bdChannel 9223372036854775807) l):CallOK Tryz.prog 31 [.val (.list 6 (l.map rvChannel)),.val (num left)] (.ret (.val (num (cut left (zS zChannel l)))) []) []:=by
 refine call_val mixed ok31 rfl (fun _=>rfl) ?_
 unfold ir31
 rw [evalC_intro]
 have hl:l.length≤9223372036854775807:=hx.1
 have hw:IntKind.i64.wrap (left - (l.length:Int))=left - l.length:=wrap_i64 (by omega) (by omega)
 have hzs:zS zChannel l=l.length+lsum zChannel l:=rfl
 by_cases h:left - (l.length:Int) < 0
 · rw [cut_neg (by omega)]
   simp [initSt,avPVs,avPV,avBoxesL,avBoxes,num,hw,h]
 · simp [initSt,avPVs,avPV,avBoxesL,avBoxes,num,hw,h]
   refine loop_EC (X:=Nat) (fun i=>⟨envOf [(0,.val (.list 6 (l.map rvChannel))),(1,.val (num (left - l.length - (lsum zChannel (l.take i):Nat)))),(5,.val (num i))],memOf []⟩) (fun i=>i≤l.length∧0≤left - l.length - (lsum zChannel (l.take i):Nat)) (fun i=>l.length - i) 0 (Le.mk _ _ ?_ ?_) ?_ ?_
   · simp [upd,num,lsum,PV.kill]
   · simp
   · simp [lsum];omega
   · rintro i ⟨hi,hg⟩
     simp [num]
     refine iteP_intro (fun h2=>?_) (fun h2=>?_)
     · have e1:(l.map rvChannel)[i]?.getD .nilptr=rvChannel l[i]:=by simp [List.getElem?_eq_getElem h2]
       have hsn:lsum zChannel (l.take (i+1))=lsum zChannel (l.take i)+zChannel l[i]:=lsum_take _ h2
       have hle:=lsum_le (f:=zChannel) l (i+1)
       simp [num,h2,e1,rvGroup,rvQueue,rvChannel,tx]
       refine callS_val rfl rfl (.inl rfl) (g_szChannel l[i] (left - l.length - (lsum zChannel (l.take i):Nat)) (by omega) (by omega) (hx.2 _ (List.getElem_mem h2))) ?_
       by_cases h3:left - (l.length:Int) - (lsum zChannel (l.take i):Int) - (zChannel l[i]:Int) < 0
       · have c1:cut (left - l.length - (lsum zChannel (l.take i):Nat)) (zChannel l[i])=-1:=cut_neg (by omega)
         have c2:cut left (zS zChannel l)=-1:=cut_neg (by omega)
         rw [c1,c2]
         simp [num]
       · have c1:cut (left - l.length - (lsum zChannel (l.take i):Nat)) (zChannel l[i])=left - l.length - (lsum zChannel (l.take i):Nat) - (zChannel l[i]:Nat):=cut_pos (by omega)
         rw [c1]
         simp [num,h3]
         refine LoopNext.mk (i+1) ⟨by omega,by omega⟩ (by omega) (Le.mk _ _ ?_ ?_)
         · simp [num]
           exact ⟨by omega,wrap_i64 (by omega) (by omega)⟩
         · simp
     · have e1:i=l.length:=by omega
       subst e1
       rw [List.take_length] at *
       rw [cut_pos (by omega)]
       simp [num]
       omega
theorem g_eqChannelS (l:List LChannel) (hx:bdS 1048576 (bdChannel 1048576) l):CallOK Tryz.prog 43 [.val (.list 6 (l.map rvChannel)),.val (.list 6 (l.map rvChannel))] (.ret (.val (.bool true)) []) []:=by
 refine call_val mixed ok43 rfl (fun _=>rfl) ?_
 unfold ir43
 rw [evalC_intro]
 have hl:l.length≤1048576:=hx.1
 simp [initSt,avPVs,avPV,avBoxesL,avBoxes,num]
 refine loop_EC (X:=Nat) (fun i=>⟨envOf [(0,.val (.list 6 (l.map rvChannel))),(1,.val (.list 6 (l.map rvChannel))),(5,.val (num i))],memOf []⟩) (fun i=>i≤l.length) (fun i=>l.length - i) 0 (Le.mk _ _ ?_ ?_) ?_ ?_
 · simp [upd,num,PV.kill]
 · simp
 · simp
 · intro i hi
   simp [num]
   refine iteP_intro (fun h1=>?_) (fun h1=>?_)
   · have e1:(l.map rvChannel)[i]?.getD .nilptr=rvChannel l[i]:=by simp [List.getElem?_eq_getElem h1]
     simp [num,h1,e1,rvGroup,rvQueue,rvChannel,tx]
     refine callS_val rfl rfl (.inl rfl) (g_eqChannel l[i] (hx.2 _ (List.getElem_mem h1))) ?_
     simp
     refine LoopNext.mk (i+1) (by omega) (by omega) (Le.mk _ _ ?_ ?_)
     · simp [num];exact wrap_i64 (by omega) (by omega)
     · simp
   · simp
theorem g_szEntryS (l:List LEntry) (left:Int) (h0:0≤left) (h1:left≤1048576) (hl:l.length≤9223372036854775807):CallOK Tryz.prog 33 [.val (.list 3 (l.map rvEntry)),.val (num left)] (.ret (.val (num (cut left l.length))) []) []:=by
 refine call_val mixed ok33 rfl (fun _=>rfl) ?_
 unfold ir33
 rw [evalC_intro]
 have hw:IntKind.i64.wrap (left - (l.length:Int))=left - l.length:=wrap_i64 (by omega) (by omega)
 by_cases h:left - (l.length:Int) < 0
 · rw [cut_neg (by omega)]
   simp [initSt,avPVs,avPV,avBoxesL,avBoxes,num,hw,h]
 · rw [cut_pos (by omega)]
   simp [initSt,avPVs,avPV,avBoxesL,avBoxes,num,hw,h]
theorem g_toEntry (x:LEntry) (hx:bdEntry 1048576 x):CallOK Tryz.prog 78 [.val (rvEntry x)] (.ret (.val (rvEntry x)) []) []:=by
 refine call_val mixed ok78 rfl (fun _=>rfl) ?_
 unfold ir78
 rw [evalC_intro]
 simp [initSt,avPVs,avPV,avBoxesL,avBoxes,rvEntry,tx,num,allVal]
 refine (resP_c (id:=2) (n:=3) (rs:=[num x.kind,num x.id,num x.at_]) ?_ ?_ rfl (by omega)).trans ?_
 · simp
 · simp [tx,num]
 · simp [rvEntry,tx,num,allVal]
theorem g_eqEntry (x:LEntry) (hx:bdEntry 1048576 x):CallOK Tryz.prog 52 [.val (rvEntry x),.val (rvEntry x)] (.ret (.val (.bool true)) []) []:=by
 refine call_val mixed ok52 rfl (fun _=>rfl) ?_
 unfold ir52
 rw [evalC_intro]
 simp [initSt,avPVs,avPV,avBoxesL,avBoxes,rvEntry,tx,num,allVal]
theorem g_eqEntryS (l:List LEntry) (hx:l.length≤1048576):CallOK Tryz.prog 18 [.val (.list 3 (l.map rvEntry)),.val (.list 3 (l.map rvEntry))] (.ret (.val (.bool true)) []) []:=by
 refine call_val mixed ok18 rfl (fun _=>rfl) ?_
 unfold ir18
 rw [evalC_intro]
 have hl:l.length≤1048576:=hx
 simp [initSt,avPVs,avPV,avBoxesL,avBoxes,num]
 refine loop_EC (X:=Nat) (fun i=>⟨envOf [(0,.val (.list 3 (l.map rvEntry))),(1,.val (.list 3 (l.map rvEntry))),(5,.val (num i))],memOf []⟩) (fun i=>i≤l.length) (fun i=>l.length - i) 0 (Le.mk _ _ ?_ ?_) ?_ ?_
 · simp [upd,num,PV.kill]
 · simp
 · simp
 · intro i hi
   simp [num]
   refine iteP_intro (fun h1=>?_) (fun h1=>?_)
   · have e1:(l.map rvEntry)[i]?.getD .nilptr=rvEntry l[i]:=by simp [List.getElem?_eq_getElem h1]
     simp [num,h1,e1,rvEntry,tx]
     refine callS_val rfl rfl (.inl rfl) (g_eqEntry l[i] trivial) ?_
     simp
     refine LoopNext.mk (i+1) (by omega) (by omega) (Le.mk _ _ ?_ ?_)
     · simp [num];exact wrap_i64 (by omega) (by omega)
     · simp
   · simp
theorem g_szWire (x:LWire) (left:Int) (h0:0≤left) (h1:left≤1048576) (hx:bdWire 9223372036854775807 x):CallOK Tryz.prog 70 [.val (rvWire x),.val (num left)] (.ret (.val (num (cut left (zWire x)))) []) []:=by
 refine call_val mixed ok70 rfl (fun _=>rfl) ?_
 unfold ir70
 rw [evalC_intro]
 unfold bdWire at hx
 obtain ⟨b0,b1,b2,b3⟩:=hx
 unfold zWire
 have w0:IntKind.i64.wrap (left - ((x.group.length:Nat):Int))=left - ((x.group.length:Nat):Int):=wrap_i64 (by omega) (by omega)
 by_cases k0:left - ((x.group.length:Nat):Int) < 0
 · rw [cut_neg (by omega)]
   simp [initSt,avPVs,avPV,avBoxesL,avBoxes,rvWire,tx,num,bs_size,allVal,w0,k0]
 · skip
   have w1:IntKind.i64.wrap ((left - (x.group.length:Nat)) - ((x.url.length:Nat):Int))=(left - (x.group.length:Nat)) - ((x.url.length:Nat):Int):=wrap_i64 (by omega) (by omega)
   by_cases k1:(left - (x.group.length:Nat)) - ((x.url.length:Nat):Int) < 0
   · rw [cut_neg (by omega)]
     simp [initSt,avPVs,avPV,avBoxesL,avBoxes,rvWire,tx,num,bs_size,allVal,w0,w1,k0,k1]
   · simp [initSt,avPVs,avPV,avBoxesL,avBoxes,rvWire,tx,num,bs_size,allVal,w0,w1,k0,k1]
     refine callS_val rfl rfl (.inl rfl) (g_szIntS x.ids (left - (x.group.length:Nat) - (x.url.length:Nat)) (by omega) (by omega) b2) ?_
     by_cases k2:(left - (x.group.length:Nat) - (x.url.length:Nat)) - ((x.ids.length:Nat):Int) < 0
     · first | rw [cut_neg (by omega),cut_neg (by omega)] | rw [cut_neg (by omega)]
       simp [rvWire,tx,num,bs_size,allVal]
     · rw [cut_pos (show ¬ (left - (x.group.length:Nat) - (x.url.length:Nat)) - ((x.ids.length:Nat):Int) < 0 by omega)]
       simp [rvWire,tx,num,bs_size,allVal,k0,k1,k2]
       have w3:IntKind.i64.wrap ((left - (x.group.length:Nat) - (x.url.length:Nat) - (x.ids.length:Nat)) - ((x.body.length:Nat):Int))=(left - (x.group.length:Nat) - (x.url.length:Nat) - (x.ids.length:Nat)) - ((x.body.length:Nat):Int):=wrap_i64 (by omega) (by omega)
       by_cases k3:(left - (x.group.length:Nat) - (x.url.length:Nat) - (x.ids.length:Nat)) - ((x.body.length:Nat):Int) < 0
       · rw [cut_neg (by omega)]
         simp [rvWire,tx,num,bs_size,allVal,w0,w1,w3,k0,k1,k2,k3]
       · rw [cut_pos (by omega)]
         simp [rvWire,tx,num,bs_size,allVal,w0,w1,w3,k0,k1,k2,k3]
         try omega
theorem g_eqWire (x:LWire) (hx:bdWire 1048576 x):CallOK Tryz.prog 90 [.val (rvWire x),.val (rvWire x)] (.ret (.val (.bool true)) []) []:=by
 refine call_val mixed ok90 rfl (fun _=>rfl) ?_
 unfold ir90
 rw [evalC_intro]
 unfold bdWire at hx
 obtain ⟨b0,b1,b2,b3⟩:=hx
 simp [initSt,avPVs,avPV,avBoxesL,avBoxes,rvWire,tx,num,allVal]
 refine callS_val rfl rfl (.inl rfl) (g_eqIntS x.ids b2) ?_
 simp [rvWire,tx,num,allVal]
theorem g_szWireS (l:List LWire) (left:Int) (h0:0≤left) (h1:left≤1048576) (hx:bdS 9223372036854775807 (bdWire 9223372036854775807) l):CallOK Tryz.prog 34 [.val (.list 7 (l.map rvWire)),.val (num left)] (.ret (.val (num (cut left (zS zWire l)))) []) []:=by
 refine call_val mixed ok34 rfl (fun _=>rfl) ?_
 unfold ir34
 rw [evalC_intro]
 have hl:l.length≤9223372036854775807:=hx.1
 have hw:IntKind.i64.wrap (left - (l.length:Int))=left - l.length:=wrap_i64 (by omega) (by omega)
 have hzs:zS zWire l=l.length+lsum zWire l:=rfl
 by_cases h:left - (l.length:Int) < 0
 · rw [cut_neg (by omega)]
   simp [initSt,avPVs,avPV,avBoxesL,avBoxes,num,hw,h]
 · simp [initSt,avPVs,avPV,avBoxesL,avBoxes,num,hw,h]
   refine loop_EC (X:=Nat) (fun i=>⟨envOf [(0,.val (.list 7 (l.map rvWire))),(1,.val (num (left - l.length - (lsum zWire (l.take i):Nat)))),(5,.val (num i))],memOf []⟩) (fun i=>i≤l.length∧0≤left - l.length - (lsum zWire (l.take i):Nat)) (fun i=>l.length - i) 0 (Le.mk _ _ ?_ ?_) ?_ ?_
   · simp [upd,num,lsum,PV.kill]
   · simp
   · simp [lsum];omega
   · rintro i ⟨hi,hg⟩
     simp [num]
     refine iteP_intro (fun h2=>?_) (fun h2=>?_)
     · have e1:(l.map rvWire)[i]?.getD .nilptr=rvWire l[i]:=by simp [List.getElem?_eq_getElem h2]
       have hsn:lsum zWire (l.take (i+1))=lsum zWire (l.take i)+zWire l[i]:=lsum_take _ h2
       have hle:=lsum_le (f:=zWire) l (i+1)
       simp [num,h2,e1,rvWire,tx]
       refine callS_val rfl rfl (.inl rfl) (g_szWire l[i] (left - l.length - (lsum zWire (l.take i):Nat)) (by omega) (by omega) (hx.2 _ (List.getElem_mem h2))) ?_
       by_cases h3:left - (l.length:Int) - (lsum zWire (l.take i):Int) - (zWire l[i]:Int) < 0
       · have c1:cut (left - l.length - (lsum zWire (l.take i):Nat)) (zWire l[i])=-1:=cut_neg (by omega)
         have c2:cut left (zS zWire l)=-1:=cut_neg (by omega)
         rw [c1,c2]
         simp [num]
       · have c1:cut (left - l.length - (lsum zWire (l.take i):Nat)) (zWire l[i])=left - l.length - (lsum zWire (l.take i):Nat) - (zWire l[i]:Nat):=cut_pos (by omega)
         rw [c1]
         simp [num,h3]
         refine LoopNext.mk (i+1) ⟨by omega,by omega⟩ (by omega) (Le.mk _ _ ?_ ?_)
         · simp [num]
           exact ⟨by omega,wrap_i64 (by omega) (by omega)⟩
         · simp
     · have e1:i=l.length:=by omega
       subst e1
       rw [List.take_length] at *
       rw [cut_pos (by omega)]
       simp [num]
       omega
theorem g_eqWireS (l:List LWire) (hx:bdS 1048576 (bdWire 1048576) l):CallOK Tryz.prog 45 [.val (.list 7 (l.map rvWire)),.val (.list 7 (l.map rvWire))] (.ret (.val (.bool true)) []) []:=by
 refine call_val mixed ok45 rfl (fun _=>rfl) ?_
 unfold ir45
 rw [evalC_intro]
 have hl:l.length≤1048576:=hx.1
 simp [initSt,avPVs,avPV,avBoxesL,avBoxes,num]
 refine loop_EC (X:=Nat) (fun i=>⟨envOf [(0,.val (.list 7 (l.map rvWire))),(1,.val (.list 7 (l.map rvWire))),(5,.val (num i))],memOf []⟩) (fun i=>i≤l.length) (fun i=>l.length - i) 0 (Le.mk _ _ ?_ ?_) ?_ ?_
 · simp [upd,num,PV.kill]
 · simp
 · simp
 · intro i hi
   simp [num]
   refine iteP_intro (fun h1=>?_) (fun h1=>?_)
   · have e1:(l.map rvWire)[i]?.getD .nilptr=rvWire l[i]:=by simp [List.getElem?_eq_getElem h1]
     simp [num,h1,e1,rvWire,tx]
     refine callS_val rfl rfl (.inl rfl) (g_eqWire l[i] (hx.2 _ (List.getElem_mem h1))) ?_
     simp
     refine LoopNext.mk (i+1) (by omega) (by omega) (Le.mk _ _ ?_ ?_)
     · simp [num];exact wrap_i64 (by omega) (by omega)
     · simp
   · simp
theorem g_szPipe (x:LPipe) (left:Int) (h0:0≤left) (h1:left≤1048576) (hx:bdPipe 9223372036854775807 x):CallOK Tryz.prog 9 [.val (rvPipe x),.val (num left)] (.ret (.val (num (cut left (zPipe x)))) []) []:=by
 refine call_val mixed ok9 rfl (fun _=>rfl) ?_
 unfold ir9
 rw [evalC_intro]
 unfold bdPipe at hx
 obtain ⟨b0,b1,b2,b3⟩:=hx
 unfold zPipe
 simp [initSt,avPVs,avPV,avBoxesL,avBoxes,rvPolicy,rvPipe,tx,num,bs_size,allVal]
 refine callS_val rfl rfl (.inl rfl) (g_szChannelS x.channels left (by omega) (by omega) b0) ?_
 by_cases k0:left - ((zS zChannel x.channels:Nat):Int) < 0
 · first | rw [cut_neg (by omega),cut_neg (by omega)] | rw [cut_neg (by omega)]
   simp [rvPolicy,rvPipe,tx,num,bs_size,allVal]
 · rw [cut_pos (show ¬ left - ((zS zChannel x.channels:Nat):Int) < 0 by omega)]
   simp [rvPolicy,rvPipe,tx,num,bs_size,allVal,k0]
   refine callS_val rfl rfl (.inl rfl) (g_szPolicy x.policy (left - (zS zChannel x.channels:Nat)) (by omega) (by omega) b1) ?_
   by_cases k1:(left - (zS zChannel x.channels:Nat)) - ((zPolicy x.policy:Nat):Int) < 0
   · first | rw [cut_neg (by omega),cut_neg (by omega)] | rw [cut_neg (by omega)]
     simp [rvPolicy,rvPipe,tx,num,bs_size,allVal]
   · rw [cut_pos (show ¬ (left - (zS zChannel x.channels:Nat)) - ((zPolicy x.policy:Nat):Int) < 0 by omega)]
     simp [rvPolicy,rvPipe,tx,num,bs_size,allVal,k0,k1]
     refine callS_val rfl rfl (.inl rfl) (g_szEntryS x.log (left - (zS zChannel x.channels:Nat) - (zPolicy x.policy:Nat)) (by omega) (by omega) b2) ?_
     by_cases k2:(left - (zS zChannel x.channels:Nat) - (zPolicy x.policy:Nat)) - ((x.log.length:Nat):Int) < 0
     · first | rw [cut_neg (by omega),cut_neg (by omega)] | rw [cut_neg (by omega)]
       simp [rvPolicy,rvPipe,tx,num,bs_size,allVal]
     · rw [cut_pos (show ¬ (left - (zS zChannel x.channels:Nat) - (zPolicy x.policy:Nat)) - ((x.log.length:Nat):Int) < 0 by omega)]
       simp [rvPolicy,rvPipe,tx,num,bs_size,allVal,k0,k1,k2]
       refine callS_val rfl rfl (.inl rfl) (g_szWireS x.wires (left - (zS zChannel x.channels:Nat) - (zPolicy x.policy:Nat) - (x.log.length:Nat)) (by omega) (by omega) b3) ?_
       by_cases k3:(left - (zS zChannel x.channels:Nat) - (zPolicy x.policy:Nat) - (x.log.length:Nat)) - ((zS zWire x.wires:Nat):Int) < 0
       · first | rw [cut_neg (by omega),cut_neg (by omega)] | rw [cut_neg (by omega)]
         simp [rvPolicy,rvPipe,tx,num,bs_size,allVal]
       · first | rw [cut_pos (by omega),cut_pos (by omega)] | rw [cut_pos (by omega)]
         simp [rvPolicy,rvPipe,tx,num,bs_size,allVal,k0,k1,k2,k3]
         try omega
theorem g_eqPipe (x:LPipe) (hx:bdPipe 1048576 x):CallOK Tryz.prog 13 [.val (rvPipe x),.val (rvPipe x)] (.ret (.val (.bool true)) []) []:=by
 refine call_val mixed ok13 rfl (fun _=>rfl) ?_
 unfold ir13
 rw [evalC_intro]
 unfold bdPipe at hx
 obtain ⟨b0,b1,b2,b3⟩:=hx
 simp [initSt,avPVs,avPV,avBoxesL,avBoxes,rvPolicy,rvPipe,tx,num,allVal]
 refine callS_val rfl rfl (.inl rfl) (g_eqChannelS x.channels b0) ?_
 simp [rvPolicy,rvPipe,tx,num,allVal]
 refine callS_val rfl rfl (.inl rfl) (g_eqPolicy x.policy b1) ?_
 simp [rvPolicy,rvPipe,tx,num,allVal]
 refine callS_val rfl rfl (.inl rfl) (g_eqEntryS x.log b2) ?_
 simp [rvPolicy,rvPipe,tx,num,allVal]
 refine callS_val rfl rfl (.inl rfl) (g_eqWireS x.wires b3) ?_
 simp [rvPolicy,rvPipe,tx,num,allVal]
end Go.Proofs
end
