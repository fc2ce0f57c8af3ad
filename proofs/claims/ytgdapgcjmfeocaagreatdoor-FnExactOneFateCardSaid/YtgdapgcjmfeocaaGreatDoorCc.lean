/- Cc: merged out of KSl, KSp, KSt, KSu, KSx. -/
import Derived.Test.YtgdapgcjmfeocaaGreatDoorCa
import Derived.Test.YtgdapgcjmfeocaaGreatDoorAc
import Derived.Test.YtgdapgcjmfeocaaGreatDoorBa
import Derived.Test.YtgdapgcjmfeocaaGreatDoorCb
set_option linter.unusedSectionVars false
set_option linter.unusedSimpArgs false
set_option linter.unusedVariables false
set_option maxRecDepth 100000
section
namespace Go.Proofs
open Go.PW Go.KP
attribute [local simp] RV.cells RV.one PV.cells PV.solid PV.one t8 f9 H0 A5 RV.ofCells elems PV.killL
variable [GF]
theorem a6l (l:List Tx) (left:Int) (h0:0≤left) (h1:left≤1048576) (hx:bdS 9223372036854775807 (fun t=>t.length≤9223372036854775807) l):d8 Tryz.prog 68 [.val (.list 1 (l.map tx)),.val (num left)] (.ret (.val (num (cut left (zS List.length l)))) []) []:=by
 refine f5 mixed ok68 rfl (fun _=>rfl) ?_
 unfold ir68
 rw [b7]
 have hl:l.length≤9223372036854775807:=hx.1
 have hw:IntKind.i64.wrap (left - (l.length:Int))=left - l.length:=wrap_i64 (by omega) (by omega)
 have hzs:zS List.length l=l.length+M6 List.length l:=rfl
 by_cases h:left - (l.length:Int) < 0
 · rw [k7 (by omega)]
   simp [d9,i6,j6,b8,d7,num,hw,h]
 · simp [d9,i6,j6,b8,d7,num,hw,h]
   refine j7 (X:=Nat) (fun i=>⟨l8 [(0,.val (.list 1 (l.map tx))),(1,.val (num (left - l.length - (M6 List.length (l.take i):Nat)))),(5,.val (num i))],l9 []⟩) (fun i=>i≤l.length∧0≤left - l.length - (M6 List.length (l.take i):Nat)) (fun i=>l.length - i) 0 (Le.mk _ _ ?_ ?_) ?_ ?_
   · simp [upd,num,M6,PV.kill]
   · simp
   · simp [M6];omega
   · rintro i ⟨hi,hg⟩
     simp [num]
     refine f6 (fun h2=>?_) (fun h2=>?_)
     · have e1:(l.map tx)[i]?.getD .nilptr=tx l[i]:=by simp [List.getElem?_eq_getElem h2]
       have hsn:M6 List.length (l.take (i+1))=M6 List.length (l.take i)+List.length l[i]:=a2p _ h2
       have hle:=a5c (f:=List.length) l (i+1)
       have hxi:l[i].length≤9223372036854775807:=hx.2 _ (List.getElem_mem h2)
       have hw2:IntKind.i64.wrap (left - (l.length:Int) - (M6 List.length (l.take i):Int) - (l[i].length:Int))=left - (l.length:Int) - (M6 List.length (l.take i):Int) - (l[i].length:Int):=wrap_i64 (by omega) (by omega)
       by_cases h3:left - (l.length:Int) - (M6 List.length (l.take i):Int) - (l[i].length:Int) < 0
       · rw [k7 (by omega)]
         simp [num,h2,e1,tx,b9,hw2,h3]
       · simp [num,h2,e1,tx,b9,hw2,h3]
         refine LoopNext.mk (i+1) ⟨by omega,by omega⟩ (by omega) (Le.mk _ _ ?_ ?_)
         · simp [num]
           exact ⟨by omega,wrap_i64 (by omega) (by omega)⟩
         · simp
     · have e1:i=l.length:=by omega
       subst e1
       rw [List.take_length] at *
       rw [G8 (by omega)]
       simp [num]
       omega
theorem a6k (l:List Tx) (hx:bdS 1048576 (fun t=>t.length≤1048576) l):d8 Tryz.prog 76 [.val (.list 1 (l.map tx))] (.ret (.val (.list 1 (l.map tx))) []) []:=by
 refine f5 mixed ok76 rfl (fun _=>rfl) ?_
 unfold ir76
 rw [b7]
 have hl:l.length≤1048576:=hx.1
 simp [d9,i6,j6,b8,d7,num,t8]
 refine ⟨by omega,by omega,?_⟩
 refine j7 (X:=Nat) (fun i=>⟨l8 [(0,.val (.list 1 (l.map tx))),(3,.own 7),(4,.val (num i))],l9 [(7,.row 9 1 (a0i tx (.str (bs [])) l i))]⟩) (fun i=>i≤l.length) (fun i=>l.length - i) 0 (Le.mk _ _ ?_ ?_) ?_ ?_
 · simp [upd,num,PV.kill]
 · simp [upd,num,bs,a00]
 · simp
 · intro i hi
   have hlen:=a15 tx (.str (bs [])) l i hi
   simp [num,t8]
   refine f6 (fun h1=>?_) (fun h1=>?_)
   · have e1:(l.map tx)[i]?.getD .nilptr=tx l[i]:=by simp [List.getElem?_eq_getElem h1]
     have e2:=a3k tx (.str (bs [])) l i h1
     have e3:=a14 tx (.str (bs [])) l i h1
     have e4:(a0i tx (.str (bs [])) l i)[i]'(by omega)=(.str (bs [])):=by
      have h9:=e2
      rw [List.getElem?_eq_getElem (show i < (a0i tx (.str (bs [])) l i).length by omega)] at h9
      exact h9
     simp [num,h1,e1,tx,hlen,t8]
     refine LoopNext.mk (i+1) (by omega) (by omega) (Le.mk _ _ ?_ ?_)
     · simp [num];exact wrap_i64 (by omega) (by omega)
     · rw [← e3]
       simp [num,tx,e4]
   · have e1:i=l.length:=by omega
     subst e1
     simp [num,a16,V2,PV.pl]
theorem a6m (l:List Tx) (hx:bdS 1048576 (fun t=>t.length≤1048576) l):d8 Tryz.prog 88 [.val (.list 1 (l.map tx)),.val (.list 1 (l.map tx))] (.ret (.val (.bool true)) []) []:=by
 refine f5 mixed ok88 rfl (fun _=>rfl) ?_
 unfold ir88
 rw [b7]
 have hl:l.length≤1048576:=hx.1
 simp [d9,i6,j6,b8,d7,num]
 refine j7 (X:=Nat) (fun i=>⟨l8 [(0,.val (.list 1 (l.map tx))),(1,.val (.list 1 (l.map tx))),(5,.val (num i))],l9 []⟩) (fun i=>i≤l.length) (fun i=>l.length - i) 0 (Le.mk _ _ ?_ ?_) ?_ ?_
 · simp [upd,num,PV.kill]
 · simp
 · simp
 · intro i hi
   simp [num]
   refine f6 (fun h1=>?_) (fun h1=>?_)
   · have e1:(l.map tx)[i]?.getD .nilptr=tx l[i]:=by simp [List.getElem?_eq_getElem h1]
     simp [num,h1,e1,tx]
     refine LoopNext.mk (i+1) (by omega) (by omega) (Le.mk _ _ ?_ ?_)
     · simp [num];exact wrap_i64 (by omega) (by omega)
     · simp
   · simp
theorem c7x (x:LRule) (left:Int) (h0:0≤left) (h1:left≤1048576) (hx:Y8 9223372036854775807 x):d8 Tryz.prog 105 [.val (j9 x),.val (num left)] (.ret (.val (num (cut left (Z8 x)))) []) []:=by
 refine f5 mixed ok105 rfl (fun _=>rfl) ?_
 unfold ir105
 rw [b7]
 unfold Y8 at hx
 obtain ⟨b0,b1⟩:=hx
 unfold Z8
 have w0:IntKind.i64.wrap (left - ((x.name.length:Nat):Int))=left - ((x.name.length:Nat):Int):=wrap_i64 (by omega) (by omega)
 by_cases k0:left - ((x.name.length:Nat):Int) < 0
 · rw [k7 (by omega)]
   simp [d9,i6,j6,b8,d7,j9,tx,num,b9,f9,w0,k0]
 · simp [d9,i6,j6,b8,d7,j9,tx,num,b9,f9,w0,k0]
   refine b6 rfl rfl (.inl rfl) (a6l x.words (left - (x.name.length:Nat)) (by omega) (by omega) b1) ?_
   by_cases k1:(left - (x.name.length:Nat)) - ((zS List.length x.words:Nat):Int) < 0
   · first | rw [k7 (by omega),k7 (by omega)] | rw [k7 (by omega)]
     simp [j9,tx,num,b9,f9]
   · first | rw [G8 (by omega),G8 (by omega)] | rw [G8 (by omega)]
     simp [j9,tx,num,b9,f9,k0,k1]
     try omega
theorem c7t (x:LRule) (hx:Y8 1048576 x):d8 Tryz.prog 119 [.val (j9 x)] (.ret (.val (j9 x)) []) []:=by
 refine f5 mixed ok119 rfl (fun _=>rfl) ?_
 unfold ir119
 rw [b7]
 unfold Y8 at hx
 obtain ⟨b0,b1⟩:=hx
 simp [d9,i6,j6,b8,d7,j9,tx,num,f9]
 refine b6 rfl rfl (.inl rfl) (a6k x.words b1) ?_
 simp [j9,tx,num,f9]
 refine (a3s (id:=2) (n:=2) (rs:=[tx x.name,.list 1 (x.words.map tx)]) ?_ ?_ rfl (by omega)).trans ?_
 · simp
 · simp [tx,num]
 · simp [j9,tx,num,f9]
theorem c72 (x:LRule) (hx:Y8 1048576 x):d8 Tryz.prog 141 [.val (j9 x),.val (j9 x)] (.ret (.val (.bool true)) []) []:=by
 refine f5 mixed ok141 rfl (fun _=>rfl) ?_
 unfold ir141
 rw [b7]
 unfold Y8 at hx
 obtain ⟨b0,b1⟩:=hx
 simp [d9,i6,j6,b8,d7,j9,tx,num,f9]
 refine b6 rfl rfl (.inl rfl) (a6m x.words b1) ?_
 simp [j9,tx,num,f9]
theorem c48 (l:List LRule) (left:Int) (h0:0≤left) (h1:left≤1048576) (hx:bdS 9223372036854775807 (Y8 9223372036854775807) l):d8 Tryz.prog 69 [.val (.list 2 (l.map j9)),.val (num left)] (.ret (.val (num (cut left (zS Z8 l)))) []) []:=by
 refine f5 mixed ok69 rfl (fun _=>rfl) ?_
 unfold ir69
 rw [b7]
 have hl:l.length≤9223372036854775807:=hx.1
 have hw:IntKind.i64.wrap (left - (l.length:Int))=left - l.length:=wrap_i64 (by omega) (by omega)
 have hzs:zS Z8 l=l.length+M6 Z8 l:=rfl
 by_cases h:left - (l.length:Int) < 0
 · rw [k7 (by omega)]
   simp [d9,i6,j6,b8,d7,num,hw,h]
 · simp [d9,i6,j6,b8,d7,num,hw,h]
   refine j7 (X:=Nat) (fun i=>⟨l8 [(0,.val (.list 2 (l.map j9))),(1,.val (num (left - l.length - (M6 Z8 (l.take i):Nat)))),(5,.val (num i))],l9 []⟩) (fun i=>i≤l.length∧0≤left - l.length - (M6 Z8 (l.take i):Nat)) (fun i=>l.length - i) 0 (Le.mk _ _ ?_ ?_) ?_ ?_
   · simp [upd,num,M6,PV.kill]
   · simp
   · simp [M6];omega
   · rintro i ⟨hi,hg⟩
     simp [num]
     refine f6 (fun h2=>?_) (fun h2=>?_)
     · have e1:(l.map j9)[i]?.getD .nilptr=j9 l[i]:=by simp [List.getElem?_eq_getElem h2]
       have hsn:M6 Z8 (l.take (i+1))=M6 Z8 (l.take i)+Z8 l[i]:=a2p _ h2
       have hle:=a5c (f:=Z8) l (i+1)
       simp [num,h2,e1,j9,tx]
       refine b6 rfl rfl (.inl rfl) (c7x l[i] (left - l.length - (M6 Z8 (l.take i):Nat)) (by omega) (by omega) (hx.2 _ (List.getElem_mem h2))) ?_
       by_cases h3:left - (l.length:Int) - (M6 Z8 (l.take i):Int) - (Z8 l[i]:Int) < 0
       · have c1:cut (left - l.length - (M6 Z8 (l.take i):Nat)) (Z8 l[i])=-1:=k7 (by omega)
         have c2:cut left (zS Z8 l)=-1:=k7 (by omega)
         rw [c1,c2]
         simp [num]
       · have c1:cut (left - l.length - (M6 Z8 (l.take i):Nat)) (Z8 l[i])=left - l.length - (M6 Z8 (l.take i):Nat) - (Z8 l[i]:Nat):=G8 (by omega)
         rw [c1]
         simp [num,h3]
         refine LoopNext.mk (i+1) ⟨by omega,by omega⟩ (by omega) (Le.mk _ _ ?_ ?_)
         · simp [num]
           exact ⟨by omega,wrap_i64 (by omega) (by omega)⟩
         · simp
     · have e1:i=l.length:=by omega
       subst e1
       rw [List.take_length] at *
       rw [G8 (by omega)]
       simp [num]
       omega
theorem c41 (l:List LRule) (hx:bdS 1048576 (Y8 1048576) l):d8 Tryz.prog 77 [.val (.list 2 (l.map j9))] (.ret (.val (.list 2 (l.map j9))) []) []:=by
 refine f5 mixed ok77 rfl (fun _=>rfl) ?_
 unfold ir77
 rw [b7]
 have hl:l.length≤1048576:=hx.1
 simp [d9,i6,j6,b8,d7,num,t8]
 refine ⟨by omega,by omega,?_⟩
 refine j7 (X:=Nat) (fun i=>⟨l8 [(0,.val (.list 2 (l.map j9))),(3,.own 7),(4,.val (num i))],l9 [(7,.row 154 2 (a0i j9 (.agg [.str (bs []),.list 1 []]) l i))]⟩) (fun i=>i≤l.length) (fun i=>l.length - i) 0 (Le.mk _ _ ?_ ?_) ?_ ?_
 · simp [upd,num,PV.kill]
 · simp [upd,num,bs,a00]
 · simp
 · intro i hi
   have hlen:=a15 j9 (.agg [.str (bs []),.list 1 []]) l i hi
   simp [num,t8]
   refine f6 (fun h1=>?_) (fun h1=>?_)
   · have e1:(l.map j9)[i]?.getD .nilptr=j9 l[i]:=by simp [List.getElem?_eq_getElem h1]
     have e2:=a3k j9 (.agg [.str (bs []),.list 1 []]) l i h1
     have e3:=a14 j9 (.agg [.str (bs []),.list 1 []]) l i h1
     have e4:(a0i j9 (.agg [.str (bs []),.list 1 []]) l i)[i]'(by omega)=(.agg [.str (bs []),.list 1 []]):=by
      have h9:=e2
      rw [List.getElem?_eq_getElem (show i < (a0i j9 (.agg [.str (bs []),.list 1 []]) l i).length by omega)] at h9
      exact h9
     simp [num,h1,e1,j9,tx,hlen,t8]
     refine b6 rfl rfl (.inl rfl) (c7t l[i] (hx.2 _ (List.getElem_mem h1))) ?_
     simp [num,h1,e1,e2,j9,tx,hlen,t8]
     refine LoopNext.mk (i+1) (by omega) (by omega) (Le.mk _ _ ?_ ?_)
     · simp [num];exact wrap_i64 (by omega) (by omega)
     · rw [← e3]
       simp [j9,num,tx,e4]
   · have e1:i=l.length:=by omega
     subst e1
     simp [num,a16,V2,PV.pl]
theorem c5d (l:List LRule) (hx:bdS 1048576 (Y8 1048576) l):d8 Tryz.prog 89 [.val (.list 2 (l.map j9)),.val (.list 2 (l.map j9))] (.ret (.val (.bool true)) []) []:=by
 refine f5 mixed ok89 rfl (fun _=>rfl) ?_
 unfold ir89
 rw [b7]
 have hl:l.length≤1048576:=hx.1
 simp [d9,i6,j6,b8,d7,num]
 refine j7 (X:=Nat) (fun i=>⟨l8 [(0,.val (.list 2 (l.map j9))),(1,.val (.list 2 (l.map j9))),(5,.val (num i))],l9 []⟩) (fun i=>i≤l.length) (fun i=>l.length - i) 0 (Le.mk _ _ ?_ ?_) ?_ ?_
 · simp [upd,num,PV.kill]
 · simp
 · simp
 · intro i hi
   simp [num]
   refine f6 (fun h1=>?_) (fun h1=>?_)
   · have e1:(l.map j9)[i]?.getD .nilptr=j9 l[i]:=by simp [List.getElem?_eq_getElem h1]
     simp [num,h1,e1,j9,tx]
     refine b6 rfl rfl (.inl rfl) (c72 l[i] (hx.2 _ (List.getElem_mem h1))) ?_
     simp
     refine LoopNext.mk (i+1) (by omega) (by omega) (Le.mk _ _ ?_ ?_)
     · simp [num];exact wrap_i64 (by omega) (by omega)
     · simp
   · simp
theorem c1m (x:LPolicy) (left:Int) (h0:0≤left) (h1:left≤1048576) (hx:Y3 9223372036854775807 x):d8 Tryz.prog 32 [.val (k8 x),.val (num left)] (.ret (.val (num (cut left (a1n x)))) []) []:=by
 refine f5 mixed ok32 rfl (fun _=>rfl) ?_
 unfold ir32
 rw [b7]
 unfold Y3 at hx
 obtain ⟨b0,b1,b2⟩:=hx
 unfold a1n
 have w0:IntKind.i64.wrap (left - ((x.reportTo.length:Nat):Int))=left - ((x.reportTo.length:Nat):Int):=wrap_i64 (by omega) (by omega)
 by_cases k0:left - ((x.reportTo.length:Nat):Int) < 0
 · rw [k7 (by omega)]
   simp [d9,i6,j6,b8,d7,k8,tx,num,b9,f9,w0,k0]
 · simp [d9,i6,j6,b8,d7,k8,tx,num,b9,f9,w0,k0]
   refine b6 rfl rfl (.inl rfl) (a6l x.uris (left - (x.reportTo.length:Nat)) (by omega) (by omega) b1) ?_
   by_cases k1:(left - (x.reportTo.length:Nat)) - ((zS List.length x.uris:Nat):Int) < 0
   · first | rw [k7 (by omega),k7 (by omega)] | rw [k7 (by omega)]
     simp [k8,tx,num,b9,f9]
   · rw [G8 (show ¬ (left - (x.reportTo.length:Nat)) - ((zS List.length x.uris:Nat):Int) < 0 by omega)]
     simp [k8,tx,num,b9,f9,k0,k1]
     refine b6 rfl rfl (.inl rfl) (c48 x.rules (left - (x.reportTo.length:Nat) - (zS List.length x.uris:Nat)) (by omega) (by omega) b2) ?_
     by_cases k2:(left - (x.reportTo.length:Nat) - (zS List.length x.uris:Nat)) - ((zS Z8 x.rules:Nat):Int) < 0
     · first | rw [k7 (by omega),k7 (by omega)] | rw [k7 (by omega)]
       simp [k8,tx,num,b9,f9]
     · first | rw [G8 (by omega),G8 (by omega)] | rw [G8 (by omega)]
       simp [k8,tx,num,b9,f9,k0,k1,k2]
       try omega
theorem c1j (x:LPolicy) (hx:Y3 1048576 x):d8 Tryz.prog 38 [.val (k8 x)] (.ret (.val (k8 x)) []) []:=by
 refine f5 mixed ok38 rfl (fun _=>rfl) ?_
 unfold ir38
 rw [b7]
 unfold Y3 at hx
 obtain ⟨b0,b1,b2⟩:=hx
 simp [d9,i6,j6,b8,d7,k8,tx,num,f9]
 refine b6 rfl rfl (.inl rfl) (a6k x.uris b1) ?_
 simp [k8,tx,num,f9]
 refine b6 rfl rfl (.inl rfl) (c41 x.rules b2) ?_
 simp [k8,tx,num,f9]
 refine (a3s (id:=2) (n:=3) (rs:=[tx x.reportTo,.list 1 (x.uris.map tx),.list 2 (x.rules.map j9)]) ?_ ?_ rfl (by omega)).trans ?_
 · simp
 · simp [tx,num]
 · simp [k8,tx,num,f9]
theorem c1p (x:LPolicy) (hx:Y3 1048576 x):d8 Tryz.prog 44 [.val (k8 x),.val (k8 x)] (.ret (.val (.bool true)) []) []:=by
 refine f5 mixed ok44 rfl (fun _=>rfl) ?_
 unfold ir44
 rw [b7]
 unfold Y3 at hx
 obtain ⟨b0,b1,b2⟩:=hx
 simp [d9,i6,j6,b8,d7,k8,tx,num,f9]
 refine b6 rfl rfl (.inl rfl) (a6m x.uris b1) ?_
 simp [k8,tx,num,f9]
 refine b6 rfl rfl (.inl rfl) (c5d x.rules b2) ?_
 simp [k8,tx,num,f9]
end Go.Proofs
end
section
namespace Go.Proofs
open Go.PW Go.KP
attribute [local simp] RV.cells RV.one PV.cells PV.solid PV.one t8 f9 H0 A5 RV.ofCells elems PV.killL
variable [GF]
theorem b27 (x:LTarget) (left:Int) (h0:0≤left) (h1:left≤1048576) (hx:T0 9223372036854775807 x):d8 Tryz.prog 189 [.val (i7 x),.val (num left)] (.ret (.val (num (cut left (R0 x)))) []) []:=by
 refine f5 mixed ok189 rfl (fun _=>rfl) ?_
 unfold ir189
 rw [b7]
 unfold T0 at hx
 have b0:=hx
 unfold R0
 have w0:IntKind.i64.wrap (left - ((x.url.length:Nat):Int))=left - ((x.url.length:Nat):Int):=wrap_i64 (by omega) (by omega)
 by_cases k0:left - ((x.url.length:Nat):Int) < 0
 · rw [k7 (by omega)]
   simp [d9,i6,j6,b8,d7,i7,tx,num,b9,f9,w0,k0]
 · rw [G8 (by omega)]
   simp [d9,i6,j6,b8,d7,i7,tx,num,b9,f9,w0,k0]
   try omega
theorem b25 (x:LTarget) (hx:T0 1048576 x):d8 Tryz.prog 194 [.val (i7 x)] (.ret (.val (i7 x)) []) []:=by
 refine f5 mixed ok194 rfl (fun _=>rfl) ?_
 unfold ir194
 rw [b7]
 unfold T0 at hx
 have b0:=hx
 simp [d9,i6,j6,b8,d7,i7,tx,num,f9]
 refine (a3s (id:=2) (n:=3) (rs:=[tx x.url,num x.prio,num x.weight]) ?_ ?_ rfl (by omega)).trans ?_
 · simp
 · simp [tx,num]
 · simp [i7,tx,num,f9]
theorem b28 (x:LTarget) (hx:T0 1048576 x):d8 Tryz.prog 207 [.val (i7 x),.val (i7 x)] (.ret (.val (.bool true)) []) []:=by
 refine f5 mixed ok207 rfl (fun _=>rfl) ?_
 unfold ir207
 rw [b7]
 unfold T0 at hx
 have b0:=hx
 simp [d9,i6,j6,b8,d7,i7,tx,num,f9]
theorem b8s (l:List LTarget) (left:Int) (h0:0≤left) (h1:left≤1048576) (hx:bdS 9223372036854775807 (T0 9223372036854775807) l):d8 Tryz.prog 144 [.val (.list 3 (l.map i7)),.val (num left)] (.ret (.val (num (cut left (zS R0 l)))) []) []:=by
 refine f5 mixed ok144 rfl (fun _=>rfl) ?_
 unfold ir144
 rw [b7]
 have hl:l.length≤9223372036854775807:=hx.1
 have hw:IntKind.i64.wrap (left - (l.length:Int))=left - l.length:=wrap_i64 (by omega) (by omega)
 have hzs:zS R0 l=l.length+M6 R0 l:=rfl
 by_cases h:left - (l.length:Int) < 0
 · rw [k7 (by omega)]
   simp [d9,i6,j6,b8,d7,num,hw,h]
 · simp [d9,i6,j6,b8,d7,num,hw,h]
   refine j7 (X:=Nat) (fun i=>⟨l8 [(0,.val (.list 3 (l.map i7))),(1,.val (num (left - l.length - (M6 R0 (l.take i):Nat)))),(5,.val (num i))],l9 []⟩) (fun i=>i≤l.length∧0≤left - l.length - (M6 R0 (l.take i):Nat)) (fun i=>l.length - i) 0 (Le.mk _ _ ?_ ?_) ?_ ?_
   · simp [upd,num,M6,PV.kill]
   · simp
   · simp [M6];omega
   · rintro i ⟨hi,hg⟩
     simp [num]
     refine f6 (fun h2=>?_) (fun h2=>?_)
     · have e1:(l.map i7)[i]?.getD .nilptr=i7 l[i]:=by simp [List.getElem?_eq_getElem h2]
       have hsn:M6 R0 (l.take (i+1))=M6 R0 (l.take i)+R0 l[i]:=a2p _ h2
       have hle:=a5c (f:=R0) l (i+1)
       simp [num,h2,e1,i7,tx]
       refine b6 rfl rfl (.inl rfl) (b27 l[i] (left - l.length - (M6 R0 (l.take i):Nat)) (by omega) (by omega) (hx.2 _ (List.getElem_mem h2))) ?_
       by_cases h3:left - (l.length:Int) - (M6 R0 (l.take i):Int) - (R0 l[i]:Int) < 0
       · have c1:cut (left - l.length - (M6 R0 (l.take i):Nat)) (R0 l[i])=-1:=k7 (by omega)
         have c2:cut left (zS R0 l)=-1:=k7 (by omega)
         rw [c1,c2]
         simp [num]
       · have c1:cut (left - l.length - (M6 R0 (l.take i):Nat)) (R0 l[i])=left - l.length - (M6 R0 (l.take i):Nat) - (R0 l[i]:Nat):=G8 (by omega)
         rw [c1]
         simp [num,h3]
         refine LoopNext.mk (i+1) ⟨by omega,by omega⟩ (by omega) (Le.mk _ _ ?_ ?_)
         · simp [num]
           exact ⟨by omega,wrap_i64 (by omega) (by omega)⟩
         · simp
     · have e1:i=l.length:=by omega
       subst e1
       rw [List.take_length] at *
       rw [G8 (by omega)]
       simp [num]
       omega
theorem b8p (l:List LTarget) (hx:bdS 1048576 (T0 1048576) l):d8 Tryz.prog 155 [.val (.list 3 (l.map i7))] (.ret (.val (.list 3 (l.map i7))) []) []:=by
 refine f5 mixed ok155 rfl (fun _=>rfl) ?_
 unfold ir155
 rw [b7]
 have hl:l.length≤1048576:=hx.1
 simp [d9,i6,j6,b8,d7,num,t8]
 refine ⟨by omega,by omega,?_⟩
 refine j7 (X:=Nat) (fun i=>⟨l8 [(0,.val (.list 3 (l.map i7))),(3,.own 7),(4,.val (num i))],l9 [(7,.row 162 3 (a0i i7 (.agg [.str (bs []),.int .i64 0,.int .i64 0]) l i))]⟩) (fun i=>i≤l.length) (fun i=>l.length - i) 0 (Le.mk _ _ ?_ ?_) ?_ ?_
 · simp [upd,num,PV.kill]
 · simp [upd,num,bs,a00]
 · simp
 · intro i hi
   have hlen:=a15 i7 (.agg [.str (bs []),.int .i64 0,.int .i64 0]) l i hi
   simp [num,t8]
   refine f6 (fun h1=>?_) (fun h1=>?_)
   · have e1:(l.map i7)[i]?.getD .nilptr=i7 l[i]:=by simp [List.getElem?_eq_getElem h1]
     have e2:=a3k i7 (.agg [.str (bs []),.int .i64 0,.int .i64 0]) l i h1
     have e3:=a14 i7 (.agg [.str (bs []),.int .i64 0,.int .i64 0]) l i h1
     have e4:(a0i i7 (.agg [.str (bs []),.int .i64 0,.int .i64 0]) l i)[i]'(by omega)=(.agg [.str (bs []),.int .i64 0,.int .i64 0]):=by
      have h9:=e2
      rw [List.getElem?_eq_getElem (show i < (a0i i7 (.agg [.str (bs []),.int .i64 0,.int .i64 0]) l i).length by omega)] at h9
      exact h9
     simp [num,h1,e1,i7,tx,hlen,t8]
     refine b6 rfl rfl (.inl rfl) (b25 l[i] (hx.2 _ (List.getElem_mem h1))) ?_
     simp [num,h1,e1,e2,i7,tx,hlen,t8]
     refine LoopNext.mk (i+1) (by omega) (by omega) (Le.mk _ _ ?_ ?_)
     · simp [num];exact wrap_i64 (by omega) (by omega)
     · rw [← e3]
       simp [i7,num,tx,e4]
   · have e1:i=l.length:=by omega
     subst e1
     simp [num,a16,V2,PV.pl]
theorem b8v (l:List LTarget) (hx:bdS 1048576 (T0 1048576) l):d8 Tryz.prog 175 [.val (.list 3 (l.map i7)),.val (.list 3 (l.map i7))] (.ret (.val (.bool true)) []) []:=by
 refine f5 mixed ok175 rfl (fun _=>rfl) ?_
 unfold ir175
 rw [b7]
 have hl:l.length≤1048576:=hx.1
 simp [d9,i6,j6,b8,d7,num]
 refine j7 (X:=Nat) (fun i=>⟨l8 [(0,.val (.list 3 (l.map i7))),(1,.val (.list 3 (l.map i7))),(5,.val (num i))],l9 []⟩) (fun i=>i≤l.length) (fun i=>l.length - i) 0 (Le.mk _ _ ?_ ?_) ?_ ?_
 · simp [upd,num,PV.kill]
 · simp
 · simp
 · intro i hi
   simp [num]
   refine f6 (fun h1=>?_) (fun h1=>?_)
   · have e1:(l.map i7)[i]?.getD .nilptr=i7 l[i]:=by simp [List.getElem?_eq_getElem h1]
     simp [num,h1,e1,i7,tx]
     refine b6 rfl rfl (.inl rfl) (b28 l[i] (hx.2 _ (List.getElem_mem h1))) ?_
     simp
     refine LoopNext.mk (i+1) (by omega) (by omega) (Le.mk _ _ ?_ ?_)
     · simp [num];exact wrap_i64 (by omega) (by omega)
     · simp
   · simp
theorem c5b (x:LGroup) (left:Int) (h0:0≤left) (h1:left≤1048576) (hx:a07 9223372036854775807 x):d8 Tryz.prog 102 [.val (H1 x),.val (num left)] (.ret (.val (num (cut left (a3d x)))) []) []:=by
 refine f5 mixed ok102 rfl (fun _=>rfl) ?_
 unfold ir102
 rw [b7]
 unfold a07 at hx
 obtain ⟨b0,b1⟩:=hx
 unfold a3d
 have w0:IntKind.i64.wrap (left - ((x.name.length:Nat):Int))=left - ((x.name.length:Nat):Int):=wrap_i64 (by omega) (by omega)
 by_cases k0:left - ((x.name.length:Nat):Int) < 0
 · rw [k7 (by omega)]
   simp [d9,i6,j6,b8,d7,H1,tx,num,b9,f9,w0,k0]
 · simp [d9,i6,j6,b8,d7,H1,tx,num,b9,f9,w0,k0]
   refine b6 rfl rfl (.inl rfl) (b8s x.targets (left - (x.name.length:Nat)) (by omega) (by omega) b1) ?_
   by_cases k1:(left - (x.name.length:Nat)) - ((zS R0 x.targets:Nat):Int) < 0
   · first | rw [k7 (by omega),k7 (by omega)] | rw [k7 (by omega)]
     simp [H1,tx,num,b9,f9]
   · first | rw [G8 (by omega),G8 (by omega)] | rw [G8 (by omega)]
     simp [H1,tx,num,b9,f9,k0,k1]
     try omega
theorem c44 (x:LGroup) (hx:a07 1048576 x):d8 Tryz.prog 116 [.val (H1 x)] (.ret (.val (H1 x)) []) []:=by
 refine f5 mixed ok116 rfl (fun _=>rfl) ?_
 unfold ir116
 rw [b7]
 unfold a07 at hx
 obtain ⟨b0,b1⟩:=hx
 simp [d9,i6,j6,b8,d7,H1,tx,num,f9]
 refine b6 rfl rfl (.inl rfl) (b8p x.targets b1) ?_
 simp [H1,tx,num,f9]
 refine (a3s (id:=2) (n:=3) (rs:=[tx x.name,num x.age,.list 3 (x.targets.map i7)]) ?_ ?_ rfl (by omega)).trans ?_
 · simp
 · simp [tx,num]
 · simp [H1,tx,num,f9]
theorem c5g (x:LGroup) (hx:a07 1048576 x):d8 Tryz.prog 138 [.val (H1 x),.val (H1 x)] (.ret (.val (.bool true)) []) []:=by
 refine f5 mixed ok138 rfl (fun _=>rfl) ?_
 unfold ir138
 rw [b7]
 unfold a07 at hx
 obtain ⟨b0,b1⟩:=hx
 simp [d9,i6,j6,b8,d7,H1,tx,num,f9]
 refine b6 rfl rfl (.inl rfl) (b8v x.targets b1) ?_
 simp [H1,tx,num,f9]
end Go.Proofs
end
section
namespace Go.Proofs
open Go.PW Go.KP
attribute [local simp] RV.cells RV.one PV.cells PV.solid PV.one t8 f9 H0 A5 RV.ofCells elems PV.killL
variable [GF]
theorem c70 (l:List Int) (left:Int) (h0:0≤left) (h1:left≤1048576) (hl:l.length≤9223372036854775807):d8 Tryz.prog 106 [.val (.list 1 (l.map num)),.val (num left)] (.ret (.val (num (cut left l.length))) []) []:=by
 refine f5 mixed ok106 rfl (fun _=>rfl) ?_
 unfold ir106
 rw [b7]
 have hw:IntKind.i64.wrap (left - (l.length:Int))=left - l.length:=wrap_i64 (by omega) (by omega)
 by_cases h:left - (l.length:Int) < 0
 · rw [k7 (by omega)]
   simp [d9,i6,j6,b8,d7,num,hw,h]
 · rw [G8 (by omega)]
   simp [d9,i6,j6,b8,d7,num,hw,h]
theorem c7v (l:List Int) (hx:l.length≤1048576):d8 Tryz.prog 120 [.val (.list 1 (l.map num))] (.ret (.val (.list 1 (l.map num))) []) []:=by
 refine f5 mixed ok120 rfl (fun _=>rfl) ?_
 unfold ir120
 rw [b7]
 have hl:l.length≤1048576:=hx
 simp [d9,i6,j6,b8,d7,num,t8]
 refine ⟨by omega,by omega,?_⟩
 refine j7 (X:=Nat) (fun i=>⟨l8 [(0,.val (.list 1 (l.map num))),(3,.own 7),(4,.val (num i))],l9 [(7,.row 3 1 (a0i num (.int .i64 0) l i))]⟩) (fun i=>i≤l.length) (fun i=>l.length - i) 0 (Le.mk _ _ ?_ ?_) ?_ ?_
 · simp [upd,num,PV.kill]
 · simp [upd,num,bs,a00]
 · simp
 · intro i hi
   have hlen:=a15 num (.int .i64 0) l i hi
   simp [num,t8]
   refine f6 (fun h1=>?_) (fun h1=>?_)
   · have e1:(l.map num)[i]?.getD .nilptr=num l[i]:=by simp [List.getElem?_eq_getElem h1]
     have e2:=a3k num (.int .i64 0) l i h1
     have e3:=a14 num (.int .i64 0) l i h1
     have e4:(a0i num (.int .i64 0) l i)[i]'(by omega)=(.int .i64 0):=by
      have h9:=e2
      rw [List.getElem?_eq_getElem (show i < (a0i num (.int .i64 0) l i).length by omega)] at h9
      exact h9
     simp [num,h1,e1,tx,hlen,t8]
     refine LoopNext.mk (i+1) (by omega) (by omega) (Le.mk _ _ ?_ ?_)
     · simp [num];exact wrap_i64 (by omega) (by omega)
     · rw [← e3]
       simp [num,tx,e4]
   · have e1:i=l.length:=by omega
     subst e1
     simp [num,a16,V2,PV.pl]
theorem c77 (l:List Int) (hx:l.length≤1048576):d8 Tryz.prog 24 [.val (.list 1 (l.map num)),.val (.list 1 (l.map num))] (.ret (.val (.bool true)) []) []:=by
 refine f5 mixed ok24 rfl (fun _=>rfl) ?_
 unfold ir24
 rw [b7]
 have hl:l.length≤1048576:=hx
 simp [d9,i6,j6,b8,d7,num]
 refine j7 (X:=Nat) (fun i=>⟨l8 [(0,.val (.list 1 (l.map num))),(1,.val (.list 1 (l.map num))),(5,.val (num i))],l9 []⟩) (fun i=>i≤l.length) (fun i=>l.length - i) 0 (Le.mk _ _ ?_ ?_) ?_ ?_
 · simp [upd,num,PV.kill]
 · simp
 · simp
 · intro i hi
   simp [num]
   refine f6 (fun h1=>?_) (fun h1=>?_)
   · have e1:(l.map num)[i]?.getD .nilptr=num l[i]:=by simp [List.getElem?_eq_getElem h1]
     simp [num,h1,e1,tx]
     refine LoopNext.mk (i+1) (by omega) (by omega) (Le.mk _ _ ?_ ?_)
     · simp [num];exact wrap_i64 (by omega) (by omega)
     · simp
   · simp
theorem c1l (x:LReport) (left:Int) (h0:0≤left) (h1:left≤1048576) (hx:W6 9223372036854775807 x):d8 Tryz.prog 190 [.val (j5 x),.val (num left)] (.ret (.val (num (cut left (Q7 x)))) []) []:=by
 refine f5 mixed ok190 rfl (fun _=>rfl) ?_
 unfold ir190
 rw [b7]
 unfold W6 at hx
 have b0:=hx
 unfold Q7
 have w0:IntKind.i64.wrap (left - ((x.body.length:Nat):Int))=left - ((x.body.length:Nat):Int):=wrap_i64 (by omega) (by omega)
 by_cases k0:left - ((x.body.length:Nat):Int) < 0
 · rw [k7 (by omega)]
   simp [d9,i6,j6,b8,d7,j5,tx,num,b9,f9,w0,k0]
 · rw [G8 (by omega)]
   simp [d9,i6,j6,b8,d7,j5,tx,num,b9,f9,w0,k0]
   try omega
theorem c1i (x:LReport) (hx:W6 1048576 x):d8 Tryz.prog 195 [.val (j5 x)] (.ret (.val (j5 x)) []) []:=by
 refine f5 mixed ok195 rfl (fun _=>rfl) ?_
 unfold ir195
 rw [b7]
 unfold W6 at hx
 have b0:=hx
 simp [d9,i6,j6,b8,d7,j5,tx,num,f9]
 refine (a3s (id:=2) (n:=4) (rs:=[num x.id,num x.born,num x.tries,tx x.body]) ?_ ?_ rfl (by omega)).trans ?_
 · simp
 · simp [tx,num]
 · simp [j5,tx,num,f9]
theorem c1o (x:LReport) (hx:W6 1048576 x):d8 Tryz.prog 208 [.val (j5 x),.val (j5 x)] (.ret (.val (.bool true)) []) []:=by
 refine f5 mixed ok208 rfl (fun _=>rfl) ?_
 unfold ir208
 rw [b7]
 unfold W6 at hx
 have b0:=hx
 simp [d9,i6,j6,b8,d7,j5,tx,num,f9]
theorem b8t (l:List LReport) (left:Int) (h0:0≤left) (h1:left≤1048576) (hx:bdS 9223372036854775807 (W6 9223372036854775807) l):d8 Tryz.prog 146 [.val (.list 4 (l.map j5)),.val (num left)] (.ret (.val (num (cut left (zS Q7 l)))) []) []:=by
 refine f5 mixed ok146 rfl (fun _=>rfl) ?_
 unfold ir146
 rw [b7]
 have hl:l.length≤9223372036854775807:=hx.1
 have hw:IntKind.i64.wrap (left - (l.length:Int))=left - l.length:=wrap_i64 (by omega) (by omega)
 have hzs:zS Q7 l=l.length+M6 Q7 l:=rfl
 by_cases h:left - (l.length:Int) < 0
 · rw [k7 (by omega)]
   simp [d9,i6,j6,b8,d7,num,hw,h]
 · simp [d9,i6,j6,b8,d7,num,hw,h]
   refine j7 (X:=Nat) (fun i=>⟨l8 [(0,.val (.list 4 (l.map j5))),(1,.val (num (left - l.length - (M6 Q7 (l.take i):Nat)))),(5,.val (num i))],l9 []⟩) (fun i=>i≤l.length∧0≤left - l.length - (M6 Q7 (l.take i):Nat)) (fun i=>l.length - i) 0 (Le.mk _ _ ?_ ?_) ?_ ?_
   · simp [upd,num,M6,PV.kill]
   · simp
   · simp [M6];omega
   · rintro i ⟨hi,hg⟩
     simp [num]
     refine f6 (fun h2=>?_) (fun h2=>?_)
     · have e1:(l.map j5)[i]?.getD .nilptr=j5 l[i]:=by simp [List.getElem?_eq_getElem h2]
       have hsn:M6 Q7 (l.take (i+1))=M6 Q7 (l.take i)+Q7 l[i]:=a2p _ h2
       have hle:=a5c (f:=Q7) l (i+1)
       simp [num,h2,e1,j5,tx]
       refine b6 rfl rfl (.inl rfl) (c1l l[i] (left - l.length - (M6 Q7 (l.take i):Nat)) (by omega) (by omega) (hx.2 _ (List.getElem_mem h2))) ?_
       by_cases h3:left - (l.length:Int) - (M6 Q7 (l.take i):Int) - (Q7 l[i]:Int) < 0
       · have c1:cut (left - l.length - (M6 Q7 (l.take i):Nat)) (Q7 l[i])=-1:=k7 (by omega)
         have c2:cut left (zS Q7 l)=-1:=k7 (by omega)
         rw [c1,c2]
         simp [num]
       · have c1:cut (left - l.length - (M6 Q7 (l.take i):Nat)) (Q7 l[i])=left - l.length - (M6 Q7 (l.take i):Nat) - (Q7 l[i]:Nat):=G8 (by omega)
         rw [c1]
         simp [num,h3]
         refine LoopNext.mk (i+1) ⟨by omega,by omega⟩ (by omega) (Le.mk _ _ ?_ ?_)
         · simp [num]
           exact ⟨by omega,wrap_i64 (by omega) (by omega)⟩
         · simp
     · have e1:i=l.length:=by omega
       subst e1
       rw [List.take_length] at *
       rw [G8 (by omega)]
       simp [num]
       omega
theorem b8q (l:List LReport) (hx:bdS 1048576 (W6 1048576) l):d8 Tryz.prog 157 [.val (.list 4 (l.map j5))] (.ret (.val (.list 4 (l.map j5))) []) []:=by
 refine f5 mixed ok157 rfl (fun _=>rfl) ?_
 unfold ir157
 rw [b7]
 have hl:l.length≤1048576:=hx.1
 simp [d9,i6,j6,b8,d7,num,t8]
 refine ⟨by omega,by omega,?_⟩
 refine j7 (X:=Nat) (fun i=>⟨l8 [(0,.val (.list 4 (l.map j5))),(3,.own 7),(4,.val (num i))],l9 [(7,.row 146 4 (a0i j5 (.agg [.int .i64 0,.int .i64 0,.int .i64 0,.str (bs [])]) l i))]⟩) (fun i=>i≤l.length) (fun i=>l.length - i) 0 (Le.mk _ _ ?_ ?_) ?_ ?_
 · simp [upd,num,PV.kill]
 · simp [upd,num,bs,a00]
 · simp
 · intro i hi
   have hlen:=a15 j5 (.agg [.int .i64 0,.int .i64 0,.int .i64 0,.str (bs [])]) l i hi
   simp [num,t8]
   refine f6 (fun h1=>?_) (fun h1=>?_)
   · have e1:(l.map j5)[i]?.getD .nilptr=j5 l[i]:=by simp [List.getElem?_eq_getElem h1]
     have e2:=a3k j5 (.agg [.int .i64 0,.int .i64 0,.int .i64 0,.str (bs [])]) l i h1
     have e3:=a14 j5 (.agg [.int .i64 0,.int .i64 0,.int .i64 0,.str (bs [])]) l i h1
     have e4:(a0i j5 (.agg [.int .i64 0,.int .i64 0,.int .i64 0,.str (bs [])]) l i)[i]'(by omega)=(.agg [.int .i64 0,.int .i64 0,.int .i64 0,.str (bs [])]):=by
      have h9:=e2
      rw [List.getElem?_eq_getElem (show i < (a0i j5 (.agg [.int .i64 0,.int .i64 0,.int .i64 0,.str (bs [])]) l i).length by omega)] at h9
      exact h9
     simp [num,h1,e1,j5,tx,hlen,t8]
     refine b6 rfl rfl (.inl rfl) (c1i l[i] (hx.2 _ (List.getElem_mem h1))) ?_
     simp [num,h1,e1,e2,j5,tx,hlen,t8]
     refine LoopNext.mk (i+1) (by omega) (by omega) (Le.mk _ _ ?_ ?_)
     · simp [num];exact wrap_i64 (by omega) (by omega)
     · rw [← e3]
       simp [j5,num,tx,e4]
   · have e1:i=l.length:=by omega
     subst e1
     simp [num,a16,V2,PV.pl]
theorem b8w (l:List LReport) (hx:bdS 1048576 (W6 1048576) l):d8 Tryz.prog 177 [.val (.list 4 (l.map j5)),.val (.list 4 (l.map j5))] (.ret (.val (.bool true)) []) []:=by
 refine f5 mixed ok177 rfl (fun _=>rfl) ?_
 unfold ir177
 rw [b7]
 have hl:l.length≤1048576:=hx.1
 simp [d9,i6,j6,b8,d7,num]
 refine j7 (X:=Nat) (fun i=>⟨l8 [(0,.val (.list 4 (l.map j5))),(1,.val (.list 4 (l.map j5))),(5,.val (num i))],l9 []⟩) (fun i=>i≤l.length) (fun i=>l.length - i) 0 (Le.mk _ _ ?_ ?_) ?_ ?_
 · simp [upd,num,PV.kill]
 · simp
 · simp
 · intro i hi
   simp [num]
   refine f6 (fun h1=>?_) (fun h1=>?_)
   · have e1:(l.map j5)[i]?.getD .nilptr=j5 l[i]:=by simp [List.getElem?_eq_getElem h1]
     simp [num,h1,e1,j5,tx]
     refine b6 rfl rfl (.inl rfl) (c1o l[i] (hx.2 _ (List.getElem_mem h1))) ?_
     simp
     refine LoopNext.mk (i+1) (by omega) (by omega) (Le.mk _ _ ?_ ?_)
     · simp [num];exact wrap_i64 (by omega) (by omega)
     · simp
   · simp
theorem c49 (x:LQueue) (left:Int) (h0:0≤left) (h1:left≤1048576) (hx:a1r 9223372036854775807 x):d8 Tryz.prog 104 [.val (A4 x),.val (num left)] (.ret (.val (num (cut left (a9r x)))) []) []:=by
 refine f5 mixed ok104 rfl (fun _=>rfl) ?_
 unfold ir104
 rw [b7]
 unfold a1r at hx
 obtain ⟨b0,b1⟩:=hx
 unfold a9r
 simp [d9,i6,j6,b8,d7,A4,tx,num,b9,f9]
 refine b6 rfl rfl (.inl rfl) (b8t x.items left (by omega) (by omega) b0) ?_
 by_cases k0:left - ((zS Q7 x.items:Nat):Int) < 0
 · first | rw [k7 (by omega),k7 (by omega)] | rw [k7 (by omega)]
   simp [A4,tx,num,b9,f9]
 · rw [G8 (show ¬ left - ((zS Q7 x.items:Nat):Int) < 0 by omega)]
   simp [A4,tx,num,b9,f9,k0]
   refine b6 rfl rfl (.inl rfl) (a6l x.recent (left - (zS Q7 x.items:Nat)) (by omega) (by omega) b1) ?_
   by_cases k1:(left - (zS Q7 x.items:Nat)) - ((zS List.length x.recent:Nat):Int) < 0
   · first | rw [k7 (by omega),k7 (by omega)] | rw [k7 (by omega)]
     simp [A4,tx,num,b9,f9]
   · first | rw [G8 (by omega),G8 (by omega)] | rw [G8 (by omega)]
     simp [A4,tx,num,b9,f9,k0,k1]
     try omega
theorem c42 (x:LQueue) (hx:a1r 1048576 x):d8 Tryz.prog 118 [.val (A4 x)] (.ret (.val (A4 x)) []) []:=by
 refine f5 mixed ok118 rfl (fun _=>rfl) ?_
 unfold ir118
 rw [b7]
 unfold a1r at hx
 obtain ⟨b0,b1⟩:=hx
 simp [d9,i6,j6,b8,d7,A4,tx,num,f9]
 refine b6 rfl rfl (.inl rfl) (b8q x.items b0) ?_
 simp [A4,tx,num,f9]
 refine b6 rfl rfl (.inl rfl) (a6k x.recent b1) ?_
 simp [A4,tx,num,f9]
 refine (a3s (id:=2) (n:=2) (rs:=[.list 4 (x.items.map j5),.list 1 (x.recent.map tx)]) ?_ ?_ rfl (by omega)).trans ?_
 · simp
 · simp [tx,num]
 · simp [A4,tx,num,f9]
theorem c5e (x:LQueue) (hx:a1r 1048576 x):d8 Tryz.prog 140 [.val (A4 x),.val (A4 x)] (.ret (.val (.bool true)) []) []:=by
 refine f5 mixed ok140 rfl (fun _=>rfl) ?_
 unfold ir140
 rw [b7]
 unfold a1r at hx
 obtain ⟨b0,b1⟩:=hx
 simp [d9,i6,j6,b8,d7,A4,tx,num,f9]
 refine b6 rfl rfl (.inl rfl) (b8w x.items b0) ?_
 simp [A4,tx,num,f9]
 refine b6 rfl rfl (.inl rfl) (a6m x.recent b1) ?_
 simp [A4,tx,num,f9]
theorem c7z (x:LPeer) (left:Int) (h0:0≤left) (h1:left≤1048576) (hx:a0y 9223372036854775807 x):d8 Tryz.prog 145 [.val (A7 x),.val (num left)] (.ret (.val (num (cut left (X5 x)))) []) []:=by
 refine f5 mixed ok145 rfl (fun _=>rfl) ?_
 unfold ir145
 rw [b7]
 unfold a0y at hx
 have b0:=hx
 unfold X5
 simp [d9,i6,j6,b8,d7,i7,A7,tx,num,b9,f9]
 refine b6 rfl rfl (.inl rfl) (b27 x.target left (by omega) (by omega) b0) ?_
 by_cases k0:left - ((R0 x.target:Nat):Int) < 0
 · first | rw [k7 (by omega),k7 (by omega)] | rw [k7 (by omega)]
   simp [i7,A7,tx,num,b9,f9]
 · first | rw [G8 (by omega),G8 (by omega)] | rw [G8 (by omega)]
   simp [i7,A7,tx,num,b9,f9,k0]
   try omega
theorem c7u (x:LPeer) (hx:a0y 1048576 x):d8 Tryz.prog 156 [.val (A7 x)] (.ret (.val (A7 x)) []) []:=by
 refine f5 mixed ok156 rfl (fun _=>rfl) ?_
 unfold ir156
 rw [b7]
 unfold a0y at hx
 have b0:=hx
 simp [d9,i6,j6,b8,d7,i7,A7,tx,num,f9]
 refine b6 rfl rfl (.inl rfl) (b25 x.target b0) ?_
 simp [i7,A7,tx,num,f9]
 refine (a3s (id:=2) (n:=6) (rs:=[tx x.target.url,num x.target.prio,num x.target.weight,num x.fails,num x.retry,.bool x.gone]) ?_ ?_ rfl (by omega)).trans ?_
 · simp
 · simp [tx,num]
 · simp [i7,A7,tx,num,f9]
theorem c74 (x:LPeer) (hx:a0y 1048576 x):d8 Tryz.prog 176 [.val (A7 x),.val (A7 x)] (.ret (.val (.bool true)) []) []:=by
 refine f5 mixed ok176 rfl (fun _=>rfl) ?_
 unfold ir176
 rw [b7]
 unfold a0y at hx
 have b0:=hx
 simp [d9,i6,j6,b8,d7,i7,A7,tx,num,f9]
 refine b6 rfl rfl (.inl rfl) (b28 x.target b0) ?_
 simp [i7,A7,tx,num,f9]
theorem c5a (l:List LPeer) (left:Int) (h0:0≤left) (h1:left≤1048576) (hx:bdS 9223372036854775807 (a0y 9223372036854775807) l):d8 Tryz.prog 103 [.val (.list 6 (l.map A7)),.val (num left)] (.ret (.val (num (cut left (zS X5 l)))) []) []:=by
 refine f5 mixed ok103 rfl (fun _=>rfl) ?_
 unfold ir103
 rw [b7]
 have hl:l.length≤9223372036854775807:=hx.1
 have hw:IntKind.i64.wrap (left - (l.length:Int))=left - l.length:=wrap_i64 (by omega) (by omega)
 have hzs:zS X5 l=l.length+M6 X5 l:=rfl
 by_cases h:left - (l.length:Int) < 0
 · rw [k7 (by omega)]
   simp [d9,i6,j6,b8,d7,num,hw,h]
 · simp [d9,i6,j6,b8,d7,num,hw,h]
   refine j7 (X:=Nat) (fun i=>⟨l8 [(0,.val (.list 6 (l.map A7))),(1,.val (num (left - l.length - (M6 X5 (l.take i):Nat)))),(5,.val (num i))],l9 []⟩) (fun i=>i≤l.length∧0≤left - l.length - (M6 X5 (l.take i):Nat)) (fun i=>l.length - i) 0 (Le.mk _ _ ?_ ?_) ?_ ?_
   · simp [upd,num,M6,PV.kill]
   · simp
   · simp [M6];omega
   · rintro i ⟨hi,hg⟩
     simp [num]
     refine f6 (fun h2=>?_) (fun h2=>?_)
     · have e1:(l.map A7)[i]?.getD .nilptr=A7 l[i]:=by simp [List.getElem?_eq_getElem h2]
       have hsn:M6 X5 (l.take (i+1))=M6 X5 (l.take i)+X5 l[i]:=a2p _ h2
       have hle:=a5c (f:=X5) l (i+1)
       simp [num,h2,e1,i7,A7,tx]
       refine b6 rfl rfl (.inl rfl) (c7z l[i] (left - l.length - (M6 X5 (l.take i):Nat)) (by omega) (by omega) (hx.2 _ (List.getElem_mem h2))) ?_
       by_cases h3:left - (l.length:Int) - (M6 X5 (l.take i):Int) - (X5 l[i]:Int) < 0
       · have c1:cut (left - l.length - (M6 X5 (l.take i):Nat)) (X5 l[i])=-1:=k7 (by omega)
         have c2:cut left (zS X5 l)=-1:=k7 (by omega)
         rw [c1,c2]
         simp [num]
       · have c1:cut (left - l.length - (M6 X5 (l.take i):Nat)) (X5 l[i])=left - l.length - (M6 X5 (l.take i):Nat) - (X5 l[i]:Nat):=G8 (by omega)
         rw [c1]
         simp [num,h3]
         refine LoopNext.mk (i+1) ⟨by omega,by omega⟩ (by omega) (Le.mk _ _ ?_ ?_)
         · simp [num]
           exact ⟨by omega,wrap_i64 (by omega) (by omega)⟩
         · simp
     · have e1:i=l.length:=by omega
       subst e1
       rw [List.take_length] at *
       rw [G8 (by omega)]
       simp [num]
       omega
theorem c43 (l:List LPeer) (hx:bdS 1048576 (a0y 1048576) l):d8 Tryz.prog 117 [.val (.list 6 (l.map A7))] (.ret (.val (.list 6 (l.map A7))) []) []:=by
 refine f5 mixed ok117 rfl (fun _=>rfl) ?_
 unfold ir117
 rw [b7]
 have hl:l.length≤1048576:=hx.1
 simp [d9,i6,j6,b8,d7,num,t8]
 refine ⟨by omega,by omega,?_⟩
 refine j7 (X:=Nat) (fun i=>⟨l8 [(0,.val (.list 6 (l.map A7))),(3,.own 7),(4,.val (num i))],l9 [(7,.row 164 6 (a0i A7 (.agg [.str (bs []),.int .i64 0,.int .i64 0,.int .i64 0,.int .i64 0,.bool false]) l i))]⟩) (fun i=>i≤l.length) (fun i=>l.length - i) 0 (Le.mk _ _ ?_ ?_) ?_ ?_
 · simp [upd,num,PV.kill]
 · simp [upd,num,bs,a00]
 · simp
 · intro i hi
   have hlen:=a15 A7 (.agg [.str (bs []),.int .i64 0,.int .i64 0,.int .i64 0,.int .i64 0,.bool false]) l i hi
   simp [num,t8]
   refine f6 (fun h1=>?_) (fun h1=>?_)
   · have e1:(l.map A7)[i]?.getD .nilptr=A7 l[i]:=by simp [List.getElem?_eq_getElem h1]
     have e2:=a3k A7 (.agg [.str (bs []),.int .i64 0,.int .i64 0,.int .i64 0,.int .i64 0,.bool false]) l i h1
     have e3:=a14 A7 (.agg [.str (bs []),.int .i64 0,.int .i64 0,.int .i64 0,.int .i64 0,.bool false]) l i h1
     have e4:(a0i A7 (.agg [.str (bs []),.int .i64 0,.int .i64 0,.int .i64 0,.int .i64 0,.bool false]) l i)[i]'(by omega)=(.agg [.str (bs []),.int .i64 0,.int .i64 0,.int .i64 0,.int .i64 0,.bool false]):=by
      have h9:=e2
      rw [List.getElem?_eq_getElem (show i < (a0i A7 (.agg [.str (bs []),.int .i64 0,.int .i64 0,.int .i64 0,.int .i64 0,.bool false]) l i).length by omega)] at h9
      exact h9
     simp [num,h1,e1,i7,A7,tx,hlen,t8]
     refine b6 rfl rfl (.inl rfl) (c7u l[i] (hx.2 _ (List.getElem_mem h1))) ?_
     simp [num,h1,e1,e2,i7,A7,tx,hlen,t8]
     refine LoopNext.mk (i+1) (by omega) (by omega) (Le.mk _ _ ?_ ?_)
     · simp [num];exact wrap_i64 (by omega) (by omega)
     · rw [← e3]
       simp [i7,A7,num,tx,e4]
   · have e1:i=l.length:=by omega
     subst e1
     simp [num,a16,V2,PV.pl]
theorem c5f (l:List LPeer) (hx:bdS 1048576 (a0y 1048576) l):d8 Tryz.prog 139 [.val (.list 6 (l.map A7)),.val (.list 6 (l.map A7))] (.ret (.val (.bool true)) []) []:=by
 refine f5 mixed ok139 rfl (fun _=>rfl) ?_
 unfold ir139
 rw [b7]
 have hl:l.length≤1048576:=hx.1
 simp [d9,i6,j6,b8,d7,num]
 refine j7 (X:=Nat) (fun i=>⟨l8 [(0,.val (.list 6 (l.map A7))),(1,.val (.list 6 (l.map A7))),(5,.val (num i))],l9 []⟩) (fun i=>i≤l.length) (fun i=>l.length - i) 0 (Le.mk _ _ ?_ ?_) ?_ ?_
 · simp [upd,num,PV.kill]
 · simp
 · simp
 · intro i hi
   simp [num]
   refine f6 (fun h1=>?_) (fun h1=>?_)
   · have e1:(l.map A7)[i]?.getD .nilptr=A7 l[i]:=by simp [List.getElem?_eq_getElem h1]
     simp [num,h1,e1,i7,A7,tx]
     refine b6 rfl rfl (.inl rfl) (c74 l[i] (hx.2 _ (List.getElem_mem h1))) ?_
     simp
     refine LoopNext.mk (i+1) (by omega) (by omega) (Le.mk _ _ ?_ ?_)
     · simp [num];exact wrap_i64 (by omega) (by omega)
     · simp
   · simp
theorem b8u (x:LChannel) (left:Int) (h0:0≤left) (h1:left≤1048576) (hx:Q9 9223372036854775807 x):d8 Tryz.prog 67 [.val (i8 x),.val (num left)] (.ret (.val (num (cut left (H5 x)))) []) []:=by
 refine f5 mixed ok67 rfl (fun _=>rfl) ?_
 unfold ir67
 rw [b7]
 unfold Q9 at hx
 obtain ⟨b0,b1,b2⟩:=hx
 unfold H5
 simp [d9,i6,j6,b8,d7,H1,A4,i8,tx,num,b9,f9]
 refine b6 rfl rfl (.inl rfl) (c5b x.group left (by omega) (by omega) b0) ?_
 by_cases k0:left - ((a3d x.group:Nat):Int) < 0
 · first | rw [k7 (by omega),k7 (by omega)] | rw [k7 (by omega)]
   simp [H1,A4,i8,tx,num,b9,f9]
 · rw [G8 (show ¬ left - ((a3d x.group:Nat):Int) < 0 by omega)]
   simp [H1,A4,i8,tx,num,b9,f9,k0]
   refine b6 rfl rfl (.inl rfl) (c5a x.peers (left - (a3d x.group:Nat)) (by omega) (by omega) b1) ?_
   by_cases k1:(left - (a3d x.group:Nat)) - ((zS X5 x.peers:Nat):Int) < 0
   · first | rw [k7 (by omega),k7 (by omega)] | rw [k7 (by omega)]
     simp [H1,A4,i8,tx,num,b9,f9]
   · rw [G8 (show ¬ (left - (a3d x.group:Nat)) - ((zS X5 x.peers:Nat):Int) < 0 by omega)]
     simp [H1,A4,i8,tx,num,b9,f9,k0,k1]
     refine b6 rfl rfl (.inl rfl) (c49 x.queue (left - (a3d x.group:Nat) - (zS X5 x.peers:Nat)) (by omega) (by omega) b2) ?_
     by_cases k2:(left - (a3d x.group:Nat) - (zS X5 x.peers:Nat)) - ((a9r x.queue:Nat):Int) < 0
     · first | rw [k7 (by omega),k7 (by omega)] | rw [k7 (by omega)]
       simp [H1,A4,i8,tx,num,b9,f9]
     · first | rw [G8 (by omega),G8 (by omega)] | rw [G8 (by omega)]
       simp [H1,A4,i8,tx,num,b9,f9,k0,k1,k2]
       try omega
theorem b8r (x:LChannel) (hx:Q9 1048576 x):d8 Tryz.prog 75 [.val (i8 x)] (.ret (.val (i8 x)) []) []:=by
 refine f5 mixed ok75 rfl (fun _=>rfl) ?_
 unfold ir75
 rw [b7]
 unfold Q9 at hx
 obtain ⟨b0,b1,b2⟩:=hx
 simp [d9,i6,j6,b8,d7,H1,A4,i8,tx,num,f9]
 refine b6 rfl rfl (.inl rfl) (c44 x.group b0) ?_
 simp [H1,A4,i8,tx,num,f9]
 refine b6 rfl rfl (.inl rfl) (c43 x.peers b1) ?_
 simp [H1,A4,i8,tx,num,f9]
 refine b6 rfl rfl (.inl rfl) (c42 x.queue b2) ?_
 simp [H1,A4,i8,tx,num,f9]
 refine (a3s (id:=2) (n:=6) (rs:=[tx x.group.name,num x.group.age,.list 3 (x.group.targets.map i7),.list 6 (x.peers.map A7),.list 4 (x.queue.items.map j5),.list 1 (x.queue.recent.map tx)]) ?_ ?_ rfl (by omega)).trans ?_
 · simp
 · simp [tx,num]
 · simp [H1,A4,i8,tx,num,f9]
theorem b8x (x:LChannel) (hx:Q9 1048576 x):d8 Tryz.prog 87 [.val (i8 x),.val (i8 x)] (.ret (.val (.bool true)) []) []:=by
 refine f5 mixed ok87 rfl (fun _=>rfl) ?_
 unfold ir87
 rw [b7]
 unfold Q9 at hx
 obtain ⟨b0,b1,b2⟩:=hx
 simp [d9,i6,j6,b8,d7,H1,A4,i8,tx,num,f9]
 refine b6 rfl rfl (.inl rfl) (c5g x.group b0) ?_
 simp [H1,A4,i8,tx,num,f9]
 refine b6 rfl rfl (.inl rfl) (c5f x.peers b1) ?_
 simp [H1,A4,i8,tx,num,f9]
 refine b6 rfl rfl (.inl rfl) (c5e x.queue b2) ?_
 simp [H1,A4,i8,tx,num,f9]
theorem b6e (l:List LChannel) (left:Int) (h0:0≤left) (h1:left≤1048576) (hx:bdS 9223372036854775807 (Q9 9223372036854775807) l):d8 Tryz.prog 31 [.val (.list 6 (l.map i8)),.val (num left)] (.ret (.val (num (cut left (zS H5 l)))) []) []:=by
 refine f5 mixed ok31 rfl (fun _=>rfl) ?_
 unfold ir31
 rw [b7]
 have hl:l.length≤9223372036854775807:=hx.1
 have hw:IntKind.i64.wrap (left - (l.length:Int))=left - l.length:=wrap_i64 (by omega) (by omega)
 have hzs:zS H5 l=l.length+M6 H5 l:=rfl
 by_cases h:left - (l.length:Int) < 0
 · rw [k7 (by omega)]
   simp [d9,i6,j6,b8,d7,num,hw,h]
 · simp [d9,i6,j6,b8,d7,num,hw,h]
   refine j7 (X:=Nat) (fun i=>⟨l8 [(0,.val (.list 6 (l.map i8))),(1,.val (num (left - l.length - (M6 H5 (l.take i):Nat)))),(5,.val (num i))],l9 []⟩) (fun i=>i≤l.length∧0≤left - l.length - (M6 H5 (l.take i):Nat)) (fun i=>l.length - i) 0 (Le.mk _ _ ?_ ?_) ?_ ?_
   · simp [upd,num,M6,PV.kill]
   · simp
   · simp [M6];omega
   · rintro i ⟨hi,hg⟩
     simp [num]
     refine f6 (fun h2=>?_) (fun h2=>?_)
     · have e1:(l.map i8)[i]?.getD .nilptr=i8 l[i]:=by simp [List.getElem?_eq_getElem h2]
       have hsn:M6 H5 (l.take (i+1))=M6 H5 (l.take i)+H5 l[i]:=a2p _ h2
       have hle:=a5c (f:=H5) l (i+1)
       simp [num,h2,e1,H1,A4,i8,tx]
       refine b6 rfl rfl (.inl rfl) (b8u l[i] (left - l.length - (M6 H5 (l.take i):Nat)) (by omega) (by omega) (hx.2 _ (List.getElem_mem h2))) ?_
       by_cases h3:left - (l.length:Int) - (M6 H5 (l.take i):Int) - (H5 l[i]:Int) < 0
       · have c1:cut (left - l.length - (M6 H5 (l.take i):Nat)) (H5 l[i])=-1:=k7 (by omega)
         have c2:cut left (zS H5 l)=-1:=k7 (by omega)
         rw [c1,c2]
         simp [num]
       · have c1:cut (left - l.length - (M6 H5 (l.take i):Nat)) (H5 l[i])=left - l.length - (M6 H5 (l.take i):Nat) - (H5 l[i]:Nat):=G8 (by omega)
         rw [c1]
         simp [num,h3]
         refine LoopNext.mk (i+1) ⟨by omega,by omega⟩ (by omega) (Le.mk _ _ ?_ ?_)
         · simp [num]
           exact ⟨by omega,wrap_i64 (by omega) (by omega)⟩
         · simp
     · have e1:i=l.length:=by omega
       subst e1
       rw [List.take_length] at *
       rw [G8 (by omega)]
       simp [num]
       omega
theorem b6d (l:List LChannel) (hx:bdS 1048576 (Q9 1048576) l):d8 Tryz.prog 37 [.val (.list 6 (l.map i8))] (.ret (.val (.list 6 (l.map i8))) []) []:=by
 refine f5 mixed ok37 rfl (fun _=>rfl) ?_
 unfold ir37
 rw [b7]
 have hl:l.length≤1048576:=hx.1
 simp [d9,i6,j6,b8,d7,num,t8]
 refine ⟨by omega,by omega,?_⟩
 refine j7 (X:=Nat) (fun i=>⟨l8 [(0,.val (.list 6 (l.map i8))),(3,.own 7),(4,.val (num i))],l9 [(7,.row 120 6 (a0i i8 (.agg [.str (bs []),.int .i64 0,.list 3 [],.list 6 [],.list 4 [],.list 1 []]) l i))]⟩) (fun i=>i≤l.length) (fun i=>l.length - i) 0 (Le.mk _ _ ?_ ?_) ?_ ?_
 · simp [upd,num,PV.kill]
 · simp [upd,num,bs,a00]
 · simp
 · intro i hi
   have hlen:=a15 i8 (.agg [.str (bs []),.int .i64 0,.list 3 [],.list 6 [],.list 4 [],.list 1 []]) l i hi
   simp [num,t8]
   refine f6 (fun h1=>?_) (fun h1=>?_)
   · have e1:(l.map i8)[i]?.getD .nilptr=i8 l[i]:=by simp [List.getElem?_eq_getElem h1]
     have e2:=a3k i8 (.agg [.str (bs []),.int .i64 0,.list 3 [],.list 6 [],.list 4 [],.list 1 []]) l i h1
     have e3:=a14 i8 (.agg [.str (bs []),.int .i64 0,.list 3 [],.list 6 [],.list 4 [],.list 1 []]) l i h1
     have e4:(a0i i8 (.agg [.str (bs []),.int .i64 0,.list 3 [],.list 6 [],.list 4 [],.list 1 []]) l i)[i]'(by omega)=(.agg [.str (bs []),.int .i64 0,.list 3 [],.list 6 [],.list 4 [],.list 1 []]):=by
      have h9:=e2
      rw [List.getElem?_eq_getElem (show i < (a0i i8 (.agg [.str (bs []),.int .i64 0,.list 3 [],.list 6 [],.list 4 [],.list 1 []]) l i).length by omega)] at h9
      exact h9
     simp [num,h1,e1,H1,A4,i8,tx,hlen,t8]
     refine b6 rfl rfl (.inl rfl) (b8r l[i] (hx.2 _ (List.getElem_mem h1))) ?_
     simp [num,h1,e1,e2,H1,A4,i8,tx,hlen,t8]
     refine LoopNext.mk (i+1) (by omega) (by omega) (Le.mk _ _ ?_ ?_)
     · simp [num];exact wrap_i64 (by omega) (by omega)
     · rw [← e3]
       simp [H1,A4,i8,num,tx,e4]
   · have e1:i=l.length:=by omega
     subst e1
     simp [num,a16,V2,PV.pl]
theorem b6f (l:List LChannel) (hx:bdS 1048576 (Q9 1048576) l):d8 Tryz.prog 43 [.val (.list 6 (l.map i8)),.val (.list 6 (l.map i8))] (.ret (.val (.bool true)) []) []:=by
 refine f5 mixed ok43 rfl (fun _=>rfl) ?_
 unfold ir43
 rw [b7]
 have hl:l.length≤1048576:=hx.1
 simp [d9,i6,j6,b8,d7,num]
 refine j7 (X:=Nat) (fun i=>⟨l8 [(0,.val (.list 6 (l.map i8))),(1,.val (.list 6 (l.map i8))),(5,.val (num i))],l9 []⟩) (fun i=>i≤l.length) (fun i=>l.length - i) 0 (Le.mk _ _ ?_ ?_) ?_ ?_
 · simp [upd,num,PV.kill]
 · simp
 · simp
 · intro i hi
   simp [num]
   refine f6 (fun h1=>?_) (fun h1=>?_)
   · have e1:(l.map i8)[i]?.getD .nilptr=i8 l[i]:=by simp [List.getElem?_eq_getElem h1]
     simp [num,h1,e1,H1,A4,i8,tx]
     refine b6 rfl rfl (.inl rfl) (b8x l[i] (hx.2 _ (List.getElem_mem h1))) ?_
     simp
     refine LoopNext.mk (i+1) (by omega) (by omega) (Le.mk _ _ ?_ ?_)
     · simp [num];exact wrap_i64 (by omega) (by omega)
     · simp
   · simp
theorem c1n (l:List LEntry) (left:Int) (h0:0≤left) (h1:left≤1048576) (hl:l.length≤9223372036854775807):d8 Tryz.prog 33 [.val (.list 3 (l.map u1)),.val (num left)] (.ret (.val (num (cut left l.length))) []) []:=by
 refine f5 mixed ok33 rfl (fun _=>rfl) ?_
 unfold ir33
 rw [b7]
 have hw:IntKind.i64.wrap (left - (l.length:Int))=left - l.length:=wrap_i64 (by omega) (by omega)
 by_cases h:left - (l.length:Int) < 0
 · rw [k7 (by omega)]
   simp [d9,i6,j6,b8,d7,num,hw,h]
 · rw [G8 (by omega)]
   simp [d9,i6,j6,b8,d7,num,hw,h]
theorem c45 (x:LEntry) (hx:a9o 1048576 x):d8 Tryz.prog 78 [.val (u1 x)] (.ret (.val (u1 x)) []) []:=by
 refine f5 mixed ok78 rfl (fun _=>rfl) ?_
 unfold ir78
 rw [b7]
 simp [d9,i6,j6,b8,d7,u1,tx,num,f9]
 refine (a3s (id:=2) (n:=3) (rs:=[num x.kind,num x.id,num x.at_]) ?_ ?_ rfl (by omega)).trans ?_
 · simp
 · simp [tx,num]
 · simp [u1,tx,num,f9]
theorem c5h (x:LEntry) (hx:a9o 1048576 x):d8 Tryz.prog 52 [.val (u1 x),.val (u1 x)] (.ret (.val (.bool true)) []) []:=by
 refine f5 mixed ok52 rfl (fun _=>rfl) ?_
 unfold ir52
 rw [b7]
 simp [d9,i6,j6,b8,d7,u1,tx,num,f9]
theorem c1k (l:List LEntry) (hx:l.length≤1048576):d8 Tryz.prog 39 [.val (.list 3 (l.map u1))] (.ret (.val (.list 3 (l.map u1))) []) []:=by
 refine f5 mixed ok39 rfl (fun _=>rfl) ?_
 unfold ir39
 rw [b7]
 have hl:l.length≤1048576:=hx
 simp [d9,i6,j6,b8,d7,num,t8]
 refine ⟨by omega,by omega,?_⟩
 refine j7 (X:=Nat) (fun i=>⟨l8 [(0,.val (.list 3 (l.map u1))),(3,.own 7),(4,.val (num i))],l9 [(7,.row 83 3 (a0i u1 (.agg [.int .i64 0,.int .i64 0,.int .i64 0]) l i))]⟩) (fun i=>i≤l.length) (fun i=>l.length - i) 0 (Le.mk _ _ ?_ ?_) ?_ ?_
 · simp [upd,num,PV.kill]
 · simp [upd,num,bs,a00]
 · simp
 · intro i hi
   have hlen:=a15 u1 (.agg [.int .i64 0,.int .i64 0,.int .i64 0]) l i hi
   simp [num,t8]
   refine f6 (fun h1=>?_) (fun h1=>?_)
   · have e1:(l.map u1)[i]?.getD .nilptr=u1 l[i]:=by simp [List.getElem?_eq_getElem h1]
     have e2:=a3k u1 (.agg [.int .i64 0,.int .i64 0,.int .i64 0]) l i h1
     have e3:=a14 u1 (.agg [.int .i64 0,.int .i64 0,.int .i64 0]) l i h1
     have e4:(a0i u1 (.agg [.int .i64 0,.int .i64 0,.int .i64 0]) l i)[i]'(by omega)=(.agg [.int .i64 0,.int .i64 0,.int .i64 0]):=by
      have h9:=e2
      rw [List.getElem?_eq_getElem (show i < (a0i u1 (.agg [.int .i64 0,.int .i64 0,.int .i64 0]) l i).length by omega)] at h9
      exact h9
     simp [num,h1,e1,u1,tx,hlen,t8]
     refine b6 rfl rfl (.inl rfl) (c45 l[i] trivial) ?_
     simp [num,h1,e1,e2,u1,tx,hlen,t8]
     refine LoopNext.mk (i+1) (by omega) (by omega) (Le.mk _ _ ?_ ?_)
     · simp [num];exact wrap_i64 (by omega) (by omega)
     · rw [← e3]
       simp [u1,num,tx,e4]
   · have e1:i=l.length:=by omega
     subst e1
     simp [num,a16,V2,PV.pl]
theorem c1q (l:List LEntry) (hx:l.length≤1048576):d8 Tryz.prog 18 [.val (.list 3 (l.map u1)),.val (.list 3 (l.map u1))] (.ret (.val (.bool true)) []) []:=by
 refine f5 mixed ok18 rfl (fun _=>rfl) ?_
 unfold ir18
 rw [b7]
 have hl:l.length≤1048576:=hx
 simp [d9,i6,j6,b8,d7,num]
 refine j7 (X:=Nat) (fun i=>⟨l8 [(0,.val (.list 3 (l.map u1))),(1,.val (.list 3 (l.map u1))),(5,.val (num i))],l9 []⟩) (fun i=>i≤l.length) (fun i=>l.length - i) 0 (Le.mk _ _ ?_ ?_) ?_ ?_
 · simp [upd,num,PV.kill]
 · simp
 · simp
 · intro i hi
   simp [num]
   refine f6 (fun h1=>?_) (fun h1=>?_)
   · have e1:(l.map u1)[i]?.getD .nilptr=u1 l[i]:=by simp [List.getElem?_eq_getElem h1]
     simp [num,h1,e1,u1,tx]
     refine b6 rfl rfl (.inl rfl) (c5h l[i] trivial) ?_
     simp
     refine LoopNext.mk (i+1) (by omega) (by omega) (Le.mk _ _ ?_ ?_)
     · simp [num];exact wrap_i64 (by omega) (by omega)
     · simp
   · simp
theorem c7w (x:LWire) (left:Int) (h0:0≤left) (h1:left≤1048576) (hx:a0h 9223372036854775807 x):d8 Tryz.prog 70 [.val (u4 x),.val (num left)] (.ret (.val (num (cut left (Z7 x)))) []) []:=by
 refine f5 mixed ok70 rfl (fun _=>rfl) ?_
 unfold ir70
 rw [b7]
 unfold a0h at hx
 obtain ⟨b0,b1,b2,b3⟩:=hx
 unfold Z7
 have w0:IntKind.i64.wrap (left - ((x.group.length:Nat):Int))=left - ((x.group.length:Nat):Int):=wrap_i64 (by omega) (by omega)
 by_cases k0:left - ((x.group.length:Nat):Int) < 0
 · rw [k7 (by omega)]
   simp [d9,i6,j6,b8,d7,u4,tx,num,b9,f9,w0,k0]
 · skip
   have w1:IntKind.i64.wrap ((left - (x.group.length:Nat)) - ((x.url.length:Nat):Int))=(left - (x.group.length:Nat)) - ((x.url.length:Nat):Int):=wrap_i64 (by omega) (by omega)
   by_cases k1:(left - (x.group.length:Nat)) - ((x.url.length:Nat):Int) < 0
   · rw [k7 (by omega)]
     simp [d9,i6,j6,b8,d7,u4,tx,num,b9,f9,w0,w1,k0,k1]
   · simp [d9,i6,j6,b8,d7,u4,tx,num,b9,f9,w0,w1,k0,k1]
     refine b6 rfl rfl (.inl rfl) (c70 x.ids (left - (x.group.length:Nat) - (x.url.length:Nat)) (by omega) (by omega) b2) ?_
     by_cases k2:(left - (x.group.length:Nat) - (x.url.length:Nat)) - ((x.ids.length:Nat):Int) < 0
     · first | rw [k7 (by omega),k7 (by omega)] | rw [k7 (by omega)]
       simp [u4,tx,num,b9,f9]
     · rw [G8 (show ¬ (left - (x.group.length:Nat) - (x.url.length:Nat)) - ((x.ids.length:Nat):Int) < 0 by omega)]
       simp [u4,tx,num,b9,f9,k0,k1,k2]
       have w3:IntKind.i64.wrap ((left - (x.group.length:Nat) - (x.url.length:Nat) - (x.ids.length:Nat)) - ((x.body.length:Nat):Int))=(left - (x.group.length:Nat) - (x.url.length:Nat) - (x.ids.length:Nat)) - ((x.body.length:Nat):Int):=wrap_i64 (by omega) (by omega)
       by_cases k3:(left - (x.group.length:Nat) - (x.url.length:Nat) - (x.ids.length:Nat)) - ((x.body.length:Nat):Int) < 0
       · rw [k7 (by omega)]
         simp [u4,tx,num,b9,f9,w0,w1,w3,k0,k1,k2,k3]
       · rw [G8 (by omega)]
         simp [u4,tx,num,b9,f9,w0,w1,w3,k0,k1,k2,k3]
         try omega
theorem c7s (x:LWire) (hx:a0h 1048576 x):d8 Tryz.prog 79 [.val (u4 x)] (.ret (.val (u4 x)) []) []:=by
 refine f5 mixed ok79 rfl (fun _=>rfl) ?_
 unfold ir79
 rw [b7]
 unfold a0h at hx
 obtain ⟨b0,b1,b2,b3⟩:=hx
 simp [d9,i6,j6,b8,d7,u4,tx,num,f9]
 refine b6 rfl rfl (.inl rfl) (c7v x.ids b2) ?_
 simp [u4,tx,num,f9]
 refine (a3s (id:=2) (n:=7) (rs:=[num x.at_,num x.status,tx x.group,tx x.url,.list 1 (x.ids.map num),tx x.body,.bool x.lost]) ?_ ?_ rfl (by omega)).trans ?_
 · simp
 · simp [tx,num]
 · simp [u4,tx,num,f9]
theorem c71 (x:LWire) (hx:a0h 1048576 x):d8 Tryz.prog 90 [.val (u4 x),.val (u4 x)] (.ret (.val (.bool true)) []) []:=by
 refine f5 mixed ok90 rfl (fun _=>rfl) ?_
 unfold ir90
 rw [b7]
 unfold a0h at hx
 obtain ⟨b0,b1,b2,b3⟩:=hx
 simp [d9,i6,j6,b8,d7,u4,tx,num,f9]
 refine b6 rfl rfl (.inl rfl) (c77 x.ids b2) ?_
 simp [u4,tx,num,f9]
theorem c47 (l:List LWire) (left:Int) (h0:0≤left) (h1:left≤1048576) (hx:bdS 9223372036854775807 (a0h 9223372036854775807) l):d8 Tryz.prog 34 [.val (.list 7 (l.map u4)),.val (num left)] (.ret (.val (num (cut left (zS Z7 l)))) []) []:=by
 refine f5 mixed ok34 rfl (fun _=>rfl) ?_
 unfold ir34
 rw [b7]
 have hl:l.length≤9223372036854775807:=hx.1
 have hw:IntKind.i64.wrap (left - (l.length:Int))=left - l.length:=wrap_i64 (by omega) (by omega)
 have hzs:zS Z7 l=l.length+M6 Z7 l:=rfl
 by_cases h:left - (l.length:Int) < 0
 · rw [k7 (by omega)]
   simp [d9,i6,j6,b8,d7,num,hw,h]
 · simp [d9,i6,j6,b8,d7,num,hw,h]
   refine j7 (X:=Nat) (fun i=>⟨l8 [(0,.val (.list 7 (l.map u4))),(1,.val (num (left - l.length - (M6 Z7 (l.take i):Nat)))),(5,.val (num i))],l9 []⟩) (fun i=>i≤l.length∧0≤left - l.length - (M6 Z7 (l.take i):Nat)) (fun i=>l.length - i) 0 (Le.mk _ _ ?_ ?_) ?_ ?_
   · simp [upd,num,M6,PV.kill]
   · simp
   · simp [M6];omega
   · rintro i ⟨hi,hg⟩
     simp [num]
     refine f6 (fun h2=>?_) (fun h2=>?_)
     · have e1:(l.map u4)[i]?.getD .nilptr=u4 l[i]:=by simp [List.getElem?_eq_getElem h2]
       have hsn:M6 Z7 (l.take (i+1))=M6 Z7 (l.take i)+Z7 l[i]:=a2p _ h2
       have hle:=a5c (f:=Z7) l (i+1)
       simp [num,h2,e1,u4,tx]
       refine b6 rfl rfl (.inl rfl) (c7w l[i] (left - l.length - (M6 Z7 (l.take i):Nat)) (by omega) (by omega) (hx.2 _ (List.getElem_mem h2))) ?_
       by_cases h3:left - (l.length:Int) - (M6 Z7 (l.take i):Int) - (Z7 l[i]:Int) < 0
       · have c1:cut (left - l.length - (M6 Z7 (l.take i):Nat)) (Z7 l[i])=-1:=k7 (by omega)
         have c2:cut left (zS Z7 l)=-1:=k7 (by omega)
         rw [c1,c2]
         simp [num]
       · have c1:cut (left - l.length - (M6 Z7 (l.take i):Nat)) (Z7 l[i])=left - l.length - (M6 Z7 (l.take i):Nat) - (Z7 l[i]:Nat):=G8 (by omega)
         rw [c1]
         simp [num,h3]
         refine LoopNext.mk (i+1) ⟨by omega,by omega⟩ (by omega) (Le.mk _ _ ?_ ?_)
         · simp [num]
           exact ⟨by omega,wrap_i64 (by omega) (by omega)⟩
         · simp
     · have e1:i=l.length:=by omega
       subst e1
       rw [List.take_length] at *
       rw [G8 (by omega)]
       simp [num]
       omega
theorem c40 (l:List LWire) (hx:bdS 1048576 (a0h 1048576) l):d8 Tryz.prog 40 [.val (.list 7 (l.map u4))] (.ret (.val (.list 7 (l.map u4))) []) []:=by
 refine f5 mixed ok40 rfl (fun _=>rfl) ?_
 unfold ir40
 rw [b7]
 have hl:l.length≤1048576:=hx.1
 simp [d9,i6,j6,b8,d7,num,t8]
 refine ⟨by omega,by omega,?_⟩
 refine j7 (X:=Nat) (fun i=>⟨l8 [(0,.val (.list 7 (l.map u4))),(3,.own 7),(4,.val (num i))],l9 [(7,.row 77 7 (a0i u4 (.agg [.int .i64 0,.int .i64 0,.str (bs []),.str (bs []),.list 1 [],.str (bs []),.bool false]) l i))]⟩) (fun i=>i≤l.length) (fun i=>l.length - i) 0 (Le.mk _ _ ?_ ?_) ?_ ?_
 · simp [upd,num,PV.kill]
 · simp [upd,num,bs,a00]
 · simp
 · intro i hi
   have hlen:=a15 u4 (.agg [.int .i64 0,.int .i64 0,.str (bs []),.str (bs []),.list 1 [],.str (bs []),.bool false]) l i hi
   simp [num,t8]
   refine f6 (fun h1=>?_) (fun h1=>?_)
   · have e1:(l.map u4)[i]?.getD .nilptr=u4 l[i]:=by simp [List.getElem?_eq_getElem h1]
     have e2:=a3k u4 (.agg [.int .i64 0,.int .i64 0,.str (bs []),.str (bs []),.list 1 [],.str (bs []),.bool false]) l i h1
     have e3:=a14 u4 (.agg [.int .i64 0,.int .i64 0,.str (bs []),.str (bs []),.list 1 [],.str (bs []),.bool false]) l i h1
     have e4:(a0i u4 (.agg [.int .i64 0,.int .i64 0,.str (bs []),.str (bs []),.list 1 [],.str (bs []),.bool false]) l i)[i]'(by omega)=(.agg [.int .i64 0,.int .i64 0,.str (bs []),.str (bs []),.list 1 [],.str (bs []),.bool false]):=by
      have h9:=e2
      rw [List.getElem?_eq_getElem (show i < (a0i u4 (.agg [.int .i64 0,.int .i64 0,.str (bs []),.str (bs []),.list 1 [],.str (bs []),.bool false]) l i).length by omega)] at h9
      exact h9
     simp [num,h1,e1,u4,tx,hlen,t8]
     refine b6 rfl rfl (.inl rfl) (c7s l[i] (hx.2 _ (List.getElem_mem h1))) ?_
     simp [num,h1,e1,e2,u4,tx,hlen,t8]
     refine LoopNext.mk (i+1) (by omega) (by omega) (Le.mk _ _ ?_ ?_)
     · simp [num];exact wrap_i64 (by omega) (by omega)
     · rw [← e3]
       simp [u4,num,tx,e4]
   · have e1:i=l.length:=by omega
     subst e1
     simp [num,a16,V2,PV.pl]
theorem c5c (l:List LWire) (hx:bdS 1048576 (a0h 1048576) l):d8 Tryz.prog 45 [.val (.list 7 (l.map u4)),.val (.list 7 (l.map u4))] (.ret (.val (.bool true)) []) []:=by
 refine f5 mixed ok45 rfl (fun _=>rfl) ?_
 unfold ir45
 rw [b7]
 have hl:l.length≤1048576:=hx.1
 simp [d9,i6,j6,b8,d7,num]
 refine j7 (X:=Nat) (fun i=>⟨l8 [(0,.val (.list 7 (l.map u4))),(1,.val (.list 7 (l.map u4))),(5,.val (num i))],l9 []⟩) (fun i=>i≤l.length) (fun i=>l.length - i) 0 (Le.mk _ _ ?_ ?_) ?_ ?_
 · simp [upd,num,PV.kill]
 · simp
 · simp
 · intro i hi
   simp [num]
   refine f6 (fun h1=>?_) (fun h1=>?_)
   · have e1:(l.map u4)[i]?.getD .nilptr=u4 l[i]:=by simp [List.getElem?_eq_getElem h1]
     simp [num,h1,e1,u4,tx]
     refine b6 rfl rfl (.inl rfl) (c71 l[i] (hx.2 _ (List.getElem_mem h1))) ?_
     simp
     refine LoopNext.mk (i+1) (by omega) (by omega) (Le.mk _ _ ?_ ?_)
     · simp [num];exact wrap_i64 (by omega) (by omega)
     · simp
   · simp
theorem c7y (x:LPipe) (left:Int) (h0:0≤left) (h1:left≤1048576) (hx:V6 9223372036854775807 x):d8 Tryz.prog 9 [.val (u0 x),.val (num left)] (.ret (.val (num (cut left (b6q x)))) []) []:=by
 refine f5 mixed ok9 rfl (fun _=>rfl) ?_
 unfold ir9
 rw [b7]
 unfold V6 at hx
 obtain ⟨b0,b1,b2,b3⟩:=hx
 unfold b6q
 simp [d9,i6,j6,b8,d7,k8,u0,tx,num,b9,f9]
 refine b6 rfl rfl (.inl rfl) (b6e x.channels left (by omega) (by omega) b0) ?_
 by_cases k0:left - ((zS H5 x.channels:Nat):Int) < 0
 · first | rw [k7 (by omega),k7 (by omega)] | rw [k7 (by omega)]
   simp [k8,u0,tx,num,b9,f9]
 · rw [G8 (show ¬ left - ((zS H5 x.channels:Nat):Int) < 0 by omega)]
   simp [k8,u0,tx,num,b9,f9,k0]
   refine b6 rfl rfl (.inl rfl) (c1m x.policy (left - (zS H5 x.channels:Nat)) (by omega) (by omega) b1) ?_
   by_cases k1:(left - (zS H5 x.channels:Nat)) - ((a1n x.policy:Nat):Int) < 0
   · first | rw [k7 (by omega),k7 (by omega)] | rw [k7 (by omega)]
     simp [k8,u0,tx,num,b9,f9]
   · rw [G8 (show ¬ (left - (zS H5 x.channels:Nat)) - ((a1n x.policy:Nat):Int) < 0 by omega)]
     simp [k8,u0,tx,num,b9,f9,k0,k1]
     refine b6 rfl rfl (.inl rfl) (c1n x.log (left - (zS H5 x.channels:Nat) - (a1n x.policy:Nat)) (by omega) (by omega) b2) ?_
     by_cases k2:(left - (zS H5 x.channels:Nat) - (a1n x.policy:Nat)) - ((x.log.length:Nat):Int) < 0
     · first | rw [k7 (by omega),k7 (by omega)] | rw [k7 (by omega)]
       simp [k8,u0,tx,num,b9,f9]
     · rw [G8 (show ¬ (left - (zS H5 x.channels:Nat) - (a1n x.policy:Nat)) - ((x.log.length:Nat):Int) < 0 by omega)]
       simp [k8,u0,tx,num,b9,f9,k0,k1,k2]
       refine b6 rfl rfl (.inl rfl) (c47 x.wires (left - (zS H5 x.channels:Nat) - (a1n x.policy:Nat) - (x.log.length:Nat)) (by omega) (by omega) b3) ?_
       by_cases k3:(left - (zS H5 x.channels:Nat) - (a1n x.policy:Nat) - (x.log.length:Nat)) - ((zS Z7 x.wires:Nat):Int) < 0
       · first | rw [k7 (by omega),k7 (by omega)] | rw [k7 (by omega)]
         simp [k8,u0,tx,num,b9,f9]
       · first | rw [G8 (by omega),G8 (by omega)] | rw [G8 (by omega)]
         simp [k8,u0,tx,num,b9,f9,k0,k1,k2,k3]
         try omega
theorem b26 (x:LPipe) (hx:V6 1048576 x):d8 Tryz.prog 11 [.val (u0 x)] (.ret (.val (u0 x)) []) []:=by
 refine f5 mixed ok11 rfl (fun _=>rfl) ?_
 unfold ir11
 rw [b7]
 unfold V6 at hx
 obtain ⟨b0,b1,b2,b3⟩:=hx
 simp [d9,i6,j6,b8,d7,k8,u0,tx,num,f9]
 refine b6 rfl rfl (.inl rfl) (b6d x.channels b0) ?_
 simp [k8,u0,tx,num,f9]
 refine b6 rfl rfl (.inl rfl) (c1j x.policy b1) ?_
 simp [k8,u0,tx,num,f9]
 refine b6 rfl rfl (.inl rfl) (c1k x.log b2) ?_
 simp [k8,u0,tx,num,f9]
 refine b6 rfl rfl (.inl rfl) (c40 x.wires b3) ?_
 simp [k8,u0,tx,num,f9]
 refine (a3s (id:=2) (n:=8) (rs:=[.list 6 (x.channels.map i8),tx x.policy.reportTo,.list 1 (x.policy.uris.map tx),.list 2 (x.policy.rules.map j9),num x.now,num x.next,.list 3 (x.log.map u1),.list 7 (x.wires.map u4)]) ?_ ?_ rfl (by omega)).trans ?_
 · simp
 · simp [tx,num]
 · simp [k8,u0,tx,num,f9]
theorem c73 (x:LPipe) (hx:V6 1048576 x):d8 Tryz.prog 13 [.val (u0 x),.val (u0 x)] (.ret (.val (.bool true)) []) []:=by
 refine f5 mixed ok13 rfl (fun _=>rfl) ?_
 unfold ir13
 rw [b7]
 unfold V6 at hx
 obtain ⟨b0,b1,b2,b3⟩:=hx
 simp [d9,i6,j6,b8,d7,k8,u0,tx,num,f9]
 refine b6 rfl rfl (.inl rfl) (b6f x.channels b0) ?_
 simp [k8,u0,tx,num,f9]
 refine b6 rfl rfl (.inl rfl) (c1p x.policy b1) ?_
 simp [k8,u0,tx,num,f9]
 refine b6 rfl rfl (.inl rfl) (c1q x.log b2) ?_
 simp [k8,u0,tx,num,f9]
 refine b6 rfl rfl (.inl rfl) (c5c x.wires b3) ?_
 simp [k8,u0,tx,num,f9]
end Go.Proofs
end
section
namespace Go.Proofs
open Go.PW Go.KP
attribute [local simp] RV.cells RV.one PV.cells PV.solid PV.one t8 f9 H0 A5 RV.ofCells elems PV.killL
variable [GF]
theorem b2u (r:LReport) (b1 b2 b3 b4:Bool) (h1:d8 Tryz.prog 56 [.val (.int .i64 r.id),.val (.int .i64 1),.val (.int .i64 1000000)] (.ret (.val (.bool b1)) []) []) (h2:d8 Tryz.prog 56 [.val (.int .i64 r.born),.val (.int .i64 0),.val (.int .i64 1000000)] (.ret (.val (.bool b2)) []) [])
 (h3:d8 Tryz.prog 56 [.val (.int .i64 r.tries),.val (.int .i64 0),.val (.int .i64 3)] (.ret (.val (.bool b3)) []) []) (h4:d8 Tryz.prog 56 [.val (.int .i64 r.body.length),.val (.int .i64 1),.val (.int .i64 8000)] (.ret (.val (.bool b4)) []) []) :
 d8 Tryz.prog 152 [.val (j5 r)] (.ret (.val (.bool (b1 && b2 && b3 && b4))) []) []:=by
 refine f5 mixed ok152 rfl (fun _=>rfl) ?_
 unfold ir152
 rw [b7]
 simp [d9,i6,j6,b8,d7,j5,tx,num,b9]
 refine b6 rfl rfl (.inl rfl) h1 ?_
 cases b1 with
 | false=>simp
 | true=>
  simp [num,b9]
  refine b6 rfl rfl (.inl rfl) h2 ?_
  cases b2 with
  | false=>simp
  | true=>
   simp [num,b9]
   refine b6 rfl rfl (.inl rfl) h3 ?_
   cases b3 with
   | false=>simp
   | true=>
    simp [num,b9]
    refine b6 rfl rfl (.inl rfl) h4 ?_
    cases b4<;>simp
theorem b9c (r:LReport):d8 Tryz.prog 152 [.val (j5 r)] (.ret (.val (.bool (X2 r))) []) []:=by
 have h:=b2u r _ _ _ _ (S6 .i64 r.id 1 1000000) (S6 .i64 r.born 0 1000000) (S6 .i64 r.tries 0 3) (S6 .i64 r.body.length 1 8000)
 have q:(1≤r.body.length∧r.body.length≤8000)↔((1:Int)≤r.body.length∧(r.body.length:Int)≤8000):=by omega
 unfold X2
 rw [decide_eq_decide.2 q]
 exact h
theorem c_l08At (l:List LChannel) (name:Tx) (hl:l.length < 1099511627776):d8 Tryz.prog 72 [.val (.list 6 (l.map i8)),.val (tx name)] (.ret (.val (num (a0j l fun r=>decide (r.group.name=name)))) []) []:=by
 refine f5 mixed ok72 rfl (fun _=>rfl) ?_
 unfold ir72
 rw [b7]
 simp [d9,i6,j6,b8,d7,num]
 refine j7 (X:=Nat) (fun i=>⟨l8 [(0,.val (.list 6 (l.map i8))),(1,.val (tx name)),(5,.val (num i))],l9 []⟩) (fun i=>i≤l.length∧∀ k (hk:k < i) (hk':k < l.length),l[k].group.name≠name) (fun i=>l.length - i) 0 (Le.mk _ _ ?_ ?_) ?_ ?_
 · simp [upd,num]
 · simp
 · simp
 · rintro i ⟨hi,hne⟩
   simp [num]
   refine f6 (fun h1=>?_) (fun h1=>?_)
   · have e1:(l.map i8)[i]?.getD .nilptr=i8 l[i]:=by simp [List.getElem?_eq_getElem h1]
     simp [num,h1,e1,i8,tx,G9]
     by_cases hu:l[i].group.name=name
     · have hh:a0j l (fun r=>decide (r.group.name=name))=i:=X9 h1 (by simp [hu]) (fun k hk=>by simp [hne k hk (by omega)])
       simp [hu,hh,num]
     · simp [hu]
       refine LoopNext.mk (i+1) ⟨by omega,fun k hk hk'=>?_⟩ (by omega) (Le.mk _ _ ?_ ?_)
       · by_cases e:k=i
         · subst e;exact hu
         · exact hne k (by omega) hk'
       · simp [num,tx];exact wrap_i64 (by omega) (by omega)
       · simp
   · have e:i=l.length:=by omega
     have hh:a0j l (fun r=>decide (r.group.name=name))=-1:=W3 (fun k hk=>by simp [hne k (by omega) hk])
     simp [hh,num]
theorem c_l06OK (q:LQueue) (hb:a1r 1048576 q):d8 Tryz.prog 114 [.val (A4 q)] (.ret (.val (.bool (R2 q))) []) []:=by
 refine f5 mixed ok114 rfl (fun _=>rfl) ?_
 unfold ir114
 rw [b7]
 by_cases h5:q.items.length≤5
 rotate_left
 · have h5':(5:Int) < q.items.length:=by omega
   have:R2 q=false:=by unfold R2;rw [decide_eq_false h5];rfl
   simp [d9,i6,j6,b8,d7,A4,h5',this]
 have h5':¬ (5:Int) < q.items.length:=by omega
 by_cases h6:q.recent.length≤6
 rotate_left
 · have h6':(6:Int) < q.recent.length:=by omega
   have:R2 q=false:=by unfold R2;rw [decide_eq_false h6];simp
   simp [d9,i6,j6,b8,d7,A4,h5',h6',this]
 have h6':¬ (6:Int) < q.recent.length:=by omega
 have hfin:Y4 q.items.length (a38 q.items)=true→Y4 q.recent.length (a7k q.recent)=true→R2 q=true:=fun a b=>by
  unfold R2;rw [decide_eq_true h5,decide_eq_true h6,a,b];rfl
 simp [d9,i6,j6,b8,d7,A4,h5',h6']
 refine j7 (X:=Nat) (fun i=>⟨l8 [(1,.ptr 1 0),(3,.val (num i))],l9 [(1,.box [.val (.list 4 (q.items.map j5)),.val (.list 1 (q.recent.map tx))])]⟩) (fun i=>i≤q.items.length∧Y4 i (a38 q.items)=true) (fun i=>q.items.length - i) 0 (Le.mk _ _ ?_ ?_) ?_ ?_
 · simp [upd,num]
 · simp
 · simp [a0l]
 · rintro i ⟨hi,hall⟩
   simp [num]
   refine f6 (fun h1=>?_) (fun h1=>?_)
   · have A1:=a88 (q:=q) h1
     have hsu:=Z6 (a38 q.items) i
     rw [hall,Bool.true_and] at hsu
     obtain ⟨r,hr⟩:∃ r,q.items[i]=r:=⟨_,rfl⟩
     have hR:=b9c r
     have wi:IntKind.i64.wrap ((i:Int)+1)=((i+1:Nat):Int):=by rw [wrap_i64 (by omega) (by omega)];omega
     by_cases h0:i=0
     · subst h0
       rw [b18 h1,hr] at A1 hsu
       simp [num,h1,hr,j5,tx]
       refine m0 rfl rfl (.inl rfl) hR ?_
       cases hk:X2 r with
       | false=>simp [A1 hk]
       | true=>
        simp [num]
        refine LoopNext.mk 1 ⟨by omega,by rw [hsu,hk]⟩ (by omega) (Le.mk _ _ ?_ ?_)
        · simp [num,upd];decide
        · simp [tx]
     · obtain ⟨j,hij⟩:∃ j,i=j+1:=⟨i - 1,by omega⟩
       have hj:j < q.items.length:=by omega
       obtain ⟨s,hs⟩:∃ s,q.items[j]=s:=⟨_,rfl⟩
       have hra:a38 q.items i=(X2 r && (decide (s.id < r.id) && decide (s.born≤r.born))):=by
        subst hij;rw [b19 h1,hr,hs]
       rw [hra] at A1 hsu
       have wj:IntKind.i64.wrap ((i:Int) - 1)=(j:Int):=by rw [wrap_i64 (by omega) (by omega)];omega
       have hp:0 < i:=by omega
       simp [num,h1,hr,j5,tx]
       refine m0 rfl rfl (.inl rfl) hR ?_
       cases hk:X2 r with
       | false=>simp [A1 (by rw [hk];rfl)]
       | true=>
        rw [hk,Bool.true_and] at A1 hsu
        by_cases hA:s.id < r.id
        · have hA':¬ r.id≤s.id:=by omega
          by_cases hB:s.born≤r.born
          · have hB':¬ r.born < s.born:=by omega
            simp [num,h1,hr,hs,hj,hp,wj,j5,tx,hA',hB']
            refine LoopNext.mk (i+1) ⟨by omega,by rw [hsu,decide_eq_true hA,decide_eq_true hB];rfl⟩ (by omega) (Le.mk _ _ ?_ ?_)
            · simp [num,wi]
            · simp [tx]
          · have hB':r.born < s.born:=by omega
            simp [num,h1,hr,hs,hj,hp,wj,j5,tx,hA',hB',A1 (by rw [decide_eq_false hB,Bool.and_false])]
        · have hA':r.id≤s.id:=by omega
          simp [num,h1,hr,hs,hj,hp,wj,j5,tx,hA',A1 (by rw [decide_eq_false hA,Bool.false_and])]
   · have e:i=q.items.length:=by omega
     subst e
     simp [num]
     refine j7 (X:=Nat) (fun i=>⟨l8 [(1,.ptr 1 0),(4,.val (num i))],l9 [(1,.box [.val (.list 4 (q.items.map j5)),.val (.list 1 (q.recent.map tx))])]⟩) (fun i=>i≤q.recent.length∧Y4 i (a7k q.recent)=true) (fun i=>q.recent.length - i) 0 (Le.mk _ _ ?_ ?_) ?_ ?_
     · simp [upd,num]
     · simp
     · simp [a0l]
     · rintro i ⟨hi2,hall2⟩
       simp [num]
       refine f6 (fun h1=>?_) (fun h1=>?_)
       · have A1:=a89 (q:=q) h1
         have hsu:=Z6 (a7k q.recent) i
         rw [hall2,Bool.true_and] at hsu
         rw [b7b h1] at A1 hsu
         obtain ⟨r,hr⟩:∃ r,q.recent[i]=r:=⟨_,rfl⟩
         rw [hr] at A1 hsu
         have hR:=S6 .i64 r.length 1 8000
         have hq:(1≤r.length∧r.length≤8000)↔((1:Int)≤r.length∧(r.length:Int)≤8000):=by omega
         rw [decide_eq_decide.2 hq] at A1 hsu
         have hH:=b9e (q.recent.take i) r (by simp;omega)
         have wi:IntKind.i64.wrap ((i:Int)+1)=((i+1:Nat):Int):=by rw [wrap_i64 (by omega) (by omega)];omega
         have hile:i≤q.recent.length:=by omega
         simp [num,h1,hr,tx,b9]
         refine m0 rfl rfl (.inl rfl) hR ?_
         cases hk:decide ((1:Int)≤r.length∧(r.length:Int)≤8000) with
         | false=>simp [A1 (by rw [hk];rfl)]
         | true=>
          rw [hk,Bool.true_and] at A1 hsu
          simp [num,h1,hr,tx,hile,← List.map_take]
          refine m0 rfl rfl (.inl rfl) hH ?_
          by_cases hm:r∈q.recent.take i
          · simp [hm,A1 (by rw [decide_eq_false (fun h=>h hm)])]
          · simp [hm]
            refine LoopNext.mk (i+1) ⟨by omega,by rw [hsu,decide_eq_true hm]⟩ (by omega) (Le.mk _ _ ?_ ?_)
            · simp [num,wi]
            · simp [tx]
       · have e:i=q.recent.length:=by omega
         subst e
         simp [hfin hall hall2]
def M4 (p:LPipe):MObj:=.box [.val (.list 6 (p.channels.map i8)),.val (tx p.policy.reportTo),.val (.list 1 (p.policy.uris.map tx)),.val (.list 2 (p.policy.rules.map j9)),.val (num p.now),.val (num p.next),.val (.list 3 (p.log.map u1)),.val (.list 7 (p.wires.map u4))]
def b9j (c:LChannel):MObj:=.box [.val (tx c.group.name),.val (num c.group.age),.val (.list 3 (c.group.targets.map i7)),.val (.list 6 (c.peers.map A7)),.val (.list 4 (c.queue.items.map j5)),.val (.list 1 (c.queue.recent.map tx))]
theorem b6l (p:LPipe) (c:LChannel) (hb:Q9 1048576 c):d8 Tryz.prog 73 [.val (u0 p),.val (i8 c)] (.ret (.val (.bool (P8 p.next p.now c))) []) []:=by
 have hO:=c_l03OK c.group hb.1
 have hpl:c.peers.length≤1048576:=hb.2.1.1
 have htl:c.group.targets.length≤1048576:=hb.1.2.1
 have hP:=c_l07OK c.peers (by omega) (fun x hx=>by have:=hb.2.1.2 x hx;unfold a0y T0 at this;omega)
 have hQ:=c_l06OK c.queue hb.2.2
 have hql:c.queue.items.length≤1048576:=hb.2.2.1.1
 refine f5 mixed ok73 rfl (fun _=>rfl) ?_
 unfold ir73
 rw [b7]
 simp [d9,i6,j6,b8,d7,u0,i8,tx,num]
 refine b6 rfl rfl (.inl rfl) hO ?_
 cases hg:a19 c.group with
 | false=>
  have hf:P8 p.next p.now c=false:=by unfold P8;rw [hg];rfl
  simp [hf]
 | true=>
 simp [num]
 refine b6 rfl rfl (.inl rfl) hP ?_
 cases hp:X8 c.peers with
 | false=>
  have hf:P8 p.next p.now c=false:=by unfold P8;rw [hg,hp];rfl
  simp [hf]
 | true=>
 by_cases hl:c.peers.length=c.group.targets.length
 rotate_left
 · have hf:P8 p.next p.now c=false:=by
    unfold P8
    rw [decide_eq_false (fun h=>hl (by have:=congrArg List.length h;simpa using this))]
    simp
   have hl':¬ ((c.peers.length:Int)=c.group.targets.length):=by omega
   simp [hf,hl,hl']
 simp [num,hl]
 refine b6 rfl rfl (.inl rfl) hQ ?_
 cases hq:R2 c.queue with
 | false=>
  have hf:P8 p.next p.now c=false:=by unfold P8;rw [hq];simp
  simp [hf]
 | true=>
 have hch:P8 p.next p.now c=(decide (c.peers.map (fun p=>p.target)=c.group.targets) && c.queue.items.all fun r=>decide (r.id < p.next) && decide (r.born≤p.now)):=by
  unfold P8;rw [hg,hp,hq];simp
 rw [hch]
 simp [num]
 refine j7 (X:=Nat) (fun i=>⟨l8 [(2,.ptr 2 0),(3,.ptr 3 0),(5,.val (num i))],l9 [(2,M4 p),(3,b9j c)]⟩) (fun i=>i≤c.peers.length∧∀ k,k < i→∀ (h:k < c.peers.length) (h':k < c.group.targets.length),(c.peers[k]).target=c.group.targets[k]) (fun i=>c.peers.length - i) 0 (Le.mk _ _ ?_ ?_) ?_ ?_
 · simp [upd,num,PV.kill]
 · simp [M4,b9j,tx,num,MObj.kill,PV.kill]
 · simp
 · rintro i ⟨hi,hall⟩
   simp [num,b9j]
   refine f6 (fun h1=>?_) (fun h1=>?_)
   · have h1':i < c.group.targets.length:=by omega
     obtain ⟨x,hx⟩:∃ x,c.peers[i]=x:=⟨_,rfl⟩
     obtain ⟨t,ht⟩:∃ t,c.group.targets[i]=t:=⟨_,rfl⟩
     have wi:IntKind.i64.wrap ((i:Int)+1)=((i+1:Nat):Int):=by rw [wrap_i64 (by omega) (by omega)];omega
     have A1:x.target≠t→(decide (c.peers.map (fun p=>p.target)=c.group.targets) && c.queue.items.all fun r=>decide (r.id < p.next) && decide (r.born≤p.now))=false:=fun hne=>by
      rw [decide_eq_false,Bool.false_and]
      intro he
      apply hne
      have:=congrArg (fun l=>l[i]?) he
      simp [List.getElem?_eq_getElem h1,List.getElem?_eq_getElem h1',hx,ht] at this
      exact this
     by_cases hu:x.target.url=t.url
     · by_cases hp2:x.target.prio=t.prio
       · by_cases hw:x.target.weight=t.weight
         · have hxt:x.target=t:=by
            cases hxx:x.target;cases t
            rw [hxx] at hu hp2 hw
            simp only at hu hp2 hw
            subst hu;subst hp2;subst hw;rfl
           simp [num,h1,h1',hx,ht,A7,i7,tx,M2,a3g,a2l,G9,hu,hp2,hw]
           refine LoopNext.mk (i+1) ⟨by omega,fun k hk h h'=>?_⟩ (by omega) (Le.mk _ _ ?_ ?_)
           · by_cases e:k=i
             · subst e;rw [hx,ht];exact hxt
             · exact hall k (by omega) h h'
           · simp [num,wi]
           · simp [b9j,M4,tx,num]
         · simp [num,h1,h1',hx,ht,A7,i7,tx,M2,a3g,a2l,G9,hu,hp2,hw,A1 (fun e=>hw (by rw [e]))]
       · simp [num,h1,h1',hx,ht,A7,i7,tx,M2,a3g,a2l,G9,hu,hp2,A1 (fun e=>hp2 (by rw [e]))]
     · simp [num,h1,h1',hx,ht,A7,i7,tx,M2,a3g,a2l,G9,hu,A1 (fun e=>hu (by rw [e]))]
   · have e:i=c.peers.length:=by omega
     subst e
     have heq:c.peers.map (fun p=>p.target)=c.group.targets:=by
      refine List.ext_getElem (by simpa using hl) fun k h h'=>?_
      simp only [List.getElem_map]
      exact hall k (by simpa using h) (by simpa using h) h'
     rw [decide_eq_true heq,Bool.true_and]
     simp [num]
     refine j7 (X:=Nat) (fun i=>⟨l8 [(2,.ptr 2 0),(3,.ptr 3 0),(6,.val (num i))],l9 [(2,M4 p),(3,b9j c)]⟩) (fun i=>i≤c.queue.items.length∧((c.queue.items.take i).all fun r=>decide (r.id < p.next) && decide (r.born≤p.now))=true) (fun i=>c.queue.items.length - i) 0 (Le.mk _ _ ?_ ?_) ?_ ?_
     · simp [upd,num,PV.kill]
     · simp [M4,b9j,tx,num,MObj.kill,PV.kill]
     · simp
     · rintro i ⟨hi2,hall2⟩
       simp [num,b9j]
       refine f6 (fun h2=>?_) (fun h2=>?_)
       · have hst:((c.queue.items.take (i+1)).all fun r=>decide (r.id < p.next) && decide (r.born≤p.now))=_:=Q4 _ _ _ h2
         rw [hall2,Bool.true_and] at hst
         obtain ⟨r,hr⟩:∃ r,c.queue.items[i]=r:=⟨_,rfl⟩
         rw [hr] at hst
         have wi:IntKind.i64.wrap ((i:Int)+1)=((i+1:Nat):Int):=by rw [wrap_i64 (by omega) (by omega)];omega
         have A1:(decide (r.id < p.next) && decide (r.born≤p.now))=false→(c.queue.items.all fun r=>decide (r.id < p.next) && decide (r.born≤p.now))=false:=fun h=>by
          rw [List.all_eq_false]
          exact ⟨r,by rw [← hr];exact List.getElem_mem h2,by rw [h];simp⟩
         by_cases hA:r.id < p.next
         · have hA':¬ p.next≤r.id:=by omega
           by_cases hB:r.born≤p.now
           · have hB':¬ p.now < r.born:=by omega
             simp [num,h2,hr,j5,tx,M4,PV.kill,MObj.kill,hA',hB']
             refine LoopNext.mk (i+1) ⟨by omega,by rw [hst,decide_eq_true hA,decide_eq_true hB];rfl⟩ (by omega) (Le.mk _ _ ?_ ?_)
             · simp [num,wi,PV.kill]
             · simp [b9j,M4,MObj.kill,PV.kill,tx,num]
           · have hB':p.now < r.born:=by omega
             simp [num,h2,hr,j5,tx,M4,PV.kill,MObj.kill,hA',hB',A1 (by rw [decide_eq_false hB,Bool.and_false])]
         · have hA':p.next≤r.id:=by omega
           simp [num,h2,hr,j5,tx,M4,PV.kill,MObj.kill,hA',A1 (by rw [decide_eq_false hA,Bool.false_and])]
       · have e:i=c.queue.items.length:=by omega
         subst e
         rw [List.take_length] at hall2
         simp [hall2]
end Go.Proofs
end
section
namespace Go.Proofs
open Go.PW Go.KP
attribute [local simp] RV.cells RV.one PV.cells PV.solid PV.one t8 f9 H0 A5 RV.ofCells elems PV.killL
variable [GF]
def b3x (w:LWire):MObj:=.box [.val (num w.at_),.val (num w.status),.val (tx w.group),.val (tx w.url),.val (.list 1 (w.ids.map num)),.val (tx w.body),.val (.bool w.lost)]
theorem b5z (p:LPipe) (w:LWire) (b1 b2 b3 b5:Bool) (hn:1≤p.next∧p.next≤1000000) (hil:w.ids.length≤1048576) (h1:d8 Tryz.prog 56 [.val (.int .i64 w.at_),.val (.int .i64 0),.val (.int .i64 p.now)] (.ret (.val (.bool b1)) []) [])
 (h2:d8 Tryz.prog 56 [.val (.int .i64 w.status),.val (.int .i64 100),.val (.int .i64 599)] (.ret (.val (.bool b2)) []) []) (h3:d8 Tryz.prog 115 [.val (tx w.group)] (.ret (.val (.bool b3)) []) [])
 (h5:d8 Tryz.prog 56 [.val (.int .i64 w.ids.length),.val (.int .i64 1),.val (.int .i64 3)] (.ret (.val (.bool b5)) []) []) :
 d8 Tryz.prog 74 [.val (u0 p),.val (u4 w)] (.ret (.val (.bool (b1 && b2 && b3 && decide (w.url.length≤100) && b5 && decide (w.body.length≤65536) && Y4 w.ids.length (a6h p.next w.ids)))) []) []:=by
 refine f5 mixed ok74 rfl (fun _=>rfl) ?_
 unfold ir74
 rw [b7]
 simp [d9,i6,j6,b8,d7,u0,u4,tx,num]
 refine b6 rfl rfl (.inl rfl) h1 ?_
 cases b1 with
 | false=>simp
 | true=>
 simp [num]
 refine b6 rfl rfl (.inl rfl) h2 ?_
 cases b2 with
 | false=>simp
 | true=>
 simp [num]
 refine b6 rfl rfl (.inl rfl) h3 ?_
 cases b3 with
 | false=>simp
 | true=>
 by_cases hu:w.url.length≤100
 rotate_left
 · have hu':(100:Int) < w.url.length:=by omega
   simp [num,b9,hu',hu]
 have hu':¬ (100:Int) < w.url.length:=by omega
 simp [num,b9,hu',hu]
 refine b6 rfl rfl (.inl rfl) h5 ?_
 cases b5 with
 | false=>simp
 | true=>
 by_cases hy:w.body.length≤65536
 rotate_left
 · have hy':(65536:Int) < w.body.length:=by omega
   simp [num,b9,hy',hy]
 have hy':¬ (65536:Int) < w.body.length:=by omega
 simp [num,b9,hy',hy]
 have wn:IntKind.i64.wrap (p.next - 1)=p.next - 1:=wrap_i64 (by omega) (by omega)
 refine j7 (X:=Nat) (fun i=>⟨l8 [(2,.ptr 2 0),(3,.ptr 3 0),(5,.val (num i))],l9 [(2,M4 p),(3,b3x w)]⟩) (fun i=>i≤w.ids.length∧Y4 i (a6h p.next w.ids)=true) (fun i=>w.ids.length - i) 0 (Le.mk _ _ ?_ ?_) ?_ ?_
 · simp [upd,num,PV.kill]
 · simp [M4,b3x,tx,num,MObj.kill,PV.kill]
 · simp [a0l]
 · rintro i ⟨hi,hall⟩
   simp [num,b3x]
   refine f6 (fun hlt=>?_) (fun hlt=>?_)
   · have A1:a6h p.next w.ids i=false→Y4 w.ids.length (a6h p.next w.ids)=false:=a3b hlt
     have hsu:=Z6 (a6h p.next w.ids) i
     rw [hall,Bool.true_and] at hsu
     obtain ⟨r,hr⟩:∃ r,w.ids[i]=r:=⟨_,rfl⟩
     have hR:=S6 .i64 r 1 (p.next - 1)
     have wi:IntKind.i64.wrap ((i:Int)+1)=((i+1:Nat):Int):=by rw [wrap_i64 (by omega) (by omega)];omega
     by_cases h0:i=0
     · subst h0
       rw [b4w hlt,hr] at A1 hsu
       simp [num,hlt,hr,tx,M4,wn]
       refine m0 rfl rfl (.inl rfl) hR ?_
       cases hk:decide (1≤r∧r≤p.next - 1) with
       | false=>simp [A1 hk]
       | true=>
        simp [num]
        refine LoopNext.mk 1 ⟨by omega,by rw [hsu,hk]⟩ (by omega) (Le.mk _ _ ?_ ?_)
        · simp [num,upd];decide
        · simp [tx,M4,b3x,num]
     · obtain ⟨j,hij⟩:∃ j,i=j+1:=⟨i - 1,by omega⟩
       have hj:j < w.ids.length:=by omega
       obtain ⟨s,hs⟩:∃ s,w.ids[j]=s:=⟨_,rfl⟩
       have hra:a6h p.next w.ids i=(decide (1≤r∧r≤p.next - 1) && decide (s < r)):=by
        subst hij;rw [b4x hlt,hr,hs]
       rw [hra] at A1 hsu
       have wj:IntKind.i64.wrap ((i:Int) - 1)=(j:Int):=by rw [wrap_i64 (by omega) (by omega)];omega
       have hp:0 < i:=by omega
       simp [num,hlt,hr,tx,M4,wn]
       refine m0 rfl rfl (.inl rfl) hR ?_
       cases hk:decide (1≤r∧r≤p.next - 1) with
       | false=>simp [A1 (by rw [hk];rfl)]
       | true=>
        rw [hk,Bool.true_and] at A1 hsu
        by_cases hA:s < r
        · have hA':¬ r≤s:=by omega
          simp [num,hlt,hr,hs,hj,hp,wj,tx,hA']
          refine LoopNext.mk (i+1) ⟨by omega,by rw [hsu,decide_eq_true hA]⟩ (by omega) (Le.mk _ _ ?_ ?_)
          · simp [num,wi]
          · simp [tx,M4,b3x,num]
        · have hA':r≤s:=by omega
          simp [num,hlt,hr,hs,hj,hp,wj,tx,hA',A1 (decide_eq_false hA)]
   · have e:i=w.ids.length:=by omega
     subst e
     simp [hall,hu,hy]
theorem c5o (p:LPipe) (w:LWire) (hn:1≤p.next∧p.next≤1000000) (hb:a0h 1048576 w):d8 Tryz.prog 74 [.val (u0 p),.val (u4 w)] (.ret (.val (.bool (V8 p.next p.now w))) []) []:=by
 have hgl:w.group.length≤1048576:=hb.1
 have hil:w.ids.length≤1048576:=hb.2.2.1
 have q:(1≤w.ids.length∧w.ids.length≤3)↔((1:Int)≤w.ids.length∧(w.ids.length:Int)≤3):=by omega
 unfold V8
 rw [decide_eq_decide.2 q]
 exact b5z p w _ _ _ _ hn hil (S6 .i64 w.at_ 0 p.now) (S6 .i64 w.status 100 599) (b0b w.group (by omega)) (S6 .i64 w.ids.length 1 3)
theorem b89 (p:LPipe) (i:Nat) (h:i < p.channels.length):(a0j p.channels fun c=>decide (c.group.name=(p.channels[i]).group.name))=(i:Int)↔(p.channels[i]).group.name∉(p.channels.map fun c=>c.group.name).take i:=a93 (fun c:LChannel=>c.group.name) p.channels i h
theorem c_l08OK (p:LPipe) (hb:V6 1048576 p):d8 Tryz.prog 35 [.val (u0 p)] (.ret (.val (.bool (H4 p))) []) []:=by
 have hcl:p.channels.length≤1048576:=hb.1.1
 have hP:=c_l04OK p.policy hb.2.1
 have hN:=S6 .i64 p.now 0 1000000
 have hX:=S6 .i64 p.next 1 1000000
 refine f5 mixed ok35 rfl (fun _=>rfl) ?_
 unfold ir35
 rw [b7]
 by_cases h5:p.channels.length≤5
 rotate_left
 · have h5':(5:Int) < p.channels.length:=by omega
   have hf:H4 p=false:=by unfold H4;rw [decide_eq_false h5];rfl
   simp [d9,i6,j6,b8,d7,u0,tx,num,h5',hf]
 have h5':¬ (5:Int) < p.channels.length:=by omega
 simp [d9,i6,j6,b8,d7,u0,tx,num,h5']
 refine b6 rfl rfl (.inl rfl) hP ?_
 cases hpol:W2 p.policy with
 | false=>
  have hf:H4 p=false:=by unfold H4;rw [hpol];simp
  simp [hf]
 | true=>
 simp [num]
 refine b6 rfl rfl (.inl rfl) hN ?_
 cases hnow:decide (0≤p.now∧p.now≤1000000) with
 | false=>
  have hf:H4 p=false:=by unfold H4;rw [hnow];simp
  simp [hf]
 | true=>
 simp [num]
 refine b6 rfl rfl (.inl rfl) hX ?_
 cases hnext:decide (1≤p.next∧p.next≤1000000) with
 | false=>
  have hf:H4 p=false:=by unfold H4;rw [hnext];simp
  simp [hf]
 | true=>
 by_cases hll:p.log.length≤4096
 rotate_left
 · have hll':(4096:Int) < p.log.length:=by omega
   have hf:H4 p=false:=by unfold H4;rw [decide_eq_false hll];simp
   simp [num,hll',hf]
 have hll':¬ (4096:Int) < p.log.length:=by omega
 by_cases hwl:p.wires.length≤4096
 rotate_left
 · have hwl':(4096:Int) < p.wires.length:=by omega
   have hf:H4 p=false:=by unfold H4;rw [decide_eq_false hwl];simp
   simp [num,hll',hwl',hf]
 have hwl':¬ (4096:Int) < p.wires.length:=by omega
 have hpk:H4 p=(Y4 p.channels.length (a2e p) && Y4 p.log.length (a29 p.next p.now p.log) && p.wires.all (V8 p.next p.now)):=by
  unfold H4;rw [decide_eq_true h5,hpol,hnow,hnext,decide_eq_true hll,decide_eq_true hwl];simp
 have hn2:1≤p.next∧p.next≤1000000:=of_decide_eq_true hnext
 have wn:IntKind.i64.wrap (p.next - 1)=p.next - 1:=wrap_i64 (by omega) (by omega)
 rw [hpk]
 simp [num,hll',hwl']
 refine j7 (X:=Nat) (fun i=>⟨l8 [(1,.ptr 1 0),(3,.val (num i))],l9 [(1,M4 p)]⟩) (fun i=>i≤p.channels.length∧Y4 i (a2e p)=true) (fun i=>p.channels.length - i) 0 (Le.mk _ _ ?_ ?_) ?_ ?_
 · simp [upd,num,PV.kill]
 · simp [M4,tx,num,MObj.kill,PV.kill]
 · simp [a0l]
 · rintro i ⟨hi,hall⟩
   simp [num,M4]
   refine f6 (fun hlt=>?_) (fun hlt=>?_)
   · have A1:a2e p i=false→(Y4 p.channels.length (a2e p) && Y4 p.log.length (a29 p.next p.now p.log) && p.wires.all (V8 p.next p.now))=false:=fun h=>by rw [a3b hlt h];rfl
     have hsu:=Z6 (a2e p) i
     rw [hall,Bool.true_and] at hsu
     rw [a99 hlt] at A1 hsu
     have hnm:=b89 p i hlt
     obtain ⟨c,hc⟩:∃ c,p.channels[i]=c:=⟨_,rfl⟩
     have hbc:Q9 1048576 c:=by rw [← hc];exact hb.1.2 _ (List.getElem_mem hlt)
     rw [hc] at A1 hsu hnm
     have hA:=c_l08At p.channels c.group.name (by omega)
     have hC:=b6l p c hbc
     have wi:IntKind.i64.wrap ((i:Int)+1)=((i+1:Nat):Int):=by rw [wrap_i64 (by omega) (by omega)];omega
     simp [num,hlt,hc,i8,tx]
     refine m0 rfl rfl (.inl rfl) hA ?_
     by_cases hu:c.group.name∈(p.channels.map fun c=>c.group.name).take i
     · have hne:¬ (a0j p.channels fun x=>decide (x.group.name=c.group.name))=(i:Int):=fun h=>hnm.1 h hu
       simp [num,hne,A1 (by rw [decide_eq_false (fun h=>h hu),Bool.false_and])]
     · have heq:=hnm.2 hu
       rw [decide_eq_true hu,Bool.true_and] at A1 hsu
       simp [num,heq,hlt,hc,i8,tx]
       refine m0 rfl rfl (.inl rfl) hC ?_
       cases hk:P8 p.next p.now c with
       | false=>simp [A1 hk]
       | true=>
        simp
        refine LoopNext.mk (i+1) ⟨by omega,by rw [hsu,hk]⟩ (by omega) (Le.mk _ _ ?_ ?_)
        · simp [num,wi]
        · simp [tx,M4,num]
   · have e:i=p.channels.length:=by omega
     subst e
     rw [hall,Bool.true_and]
     simp [num]
     refine j7 (X:=Nat) (fun i=>⟨l8 [(1,.ptr 1 0),(4,.val (num i))],l9 [(1,M4 p)]⟩) (fun i=>i≤p.log.length∧Y4 i (a29 p.next p.now p.log)=true) (fun i=>p.log.length - i) 0 (Le.mk _ _ ?_ ?_) ?_ ?_
     · simp [upd,num,PV.kill]
     · simp [M4,tx,num,MObj.kill,PV.kill]
     · simp [a0l]
     · rintro i ⟨hi2,hall2⟩
       simp [num,M4]
       refine f6 (fun hlt=>?_) (fun hlt=>?_)
       · have A1:a29 p.next p.now p.log i=false→(Y4 p.log.length (a29 p.next p.now p.log) && p.wires.all (V8 p.next p.now))=false:=fun h=>by rw [a3b hlt h];rfl
         have hsu:=Z6 (a29 p.next p.now p.log) i
         have hlo:=a9j (by omega) hall2
         rw [hall2,Bool.true_and] at hsu
         rw [a9k hlt] at A1 hsu
         obtain ⟨x,hx⟩:∃ x,p.log[i]=x:=⟨_,rfl⟩
         rw [hx] at A1 hsu
         have hK:=S6 .i64 x.kind 1 7
         have hI:=S6 .i64 x.id 1 (p.next - 1)
         have hT:=S6 .i64 x.at_ 0 p.now
         have wi:IntKind.i64.wrap ((i:Int)+1)=((i+1:Nat):Int):=by rw [wrap_i64 (by omega) (by omega)];omega
         simp [num,hlt,hx,u1,tx,PV.kill,MObj.kill]
         refine m0 rfl rfl (.inl rfl) hK ?_
         cases hk:decide (1≤x.kind∧x.kind≤7) with
         | false=>simp [A1 (by rw [hk];rfl)]
         | true=>
         rw [hk,Bool.true_and] at A1 hsu
         simp [num,wn,PV.kill]
         refine m0 rfl rfl (.inl rfl) hI ?_
         cases hid:decide (1≤x.id∧x.id≤p.next - 1) with
         | false=>simp [A1 (by rw [hid];rfl)]
         | true=>
         rw [hid,Bool.true_and] at A1 hsu
         simp [num,wn,PV.kill]
         refine m0 rfl rfl (.inl rfl) hT ?_
         cases hat:decide (0≤x.at_∧x.at_≤p.now) with
         | false=>simp [A1 (decide_eq_false (fun h=>(of_decide_eq_false hat) ⟨by omega,h.2⟩))]
         | true=>
         have hat2:=of_decide_eq_true hat
         by_cases h0:i=0
         · subst h0
           have hl0:a7t p.log 0=0:=rfl
           rw [hl0] at hsu
           simp [num]
           refine LoopNext.mk 1 ⟨by omega,by rw [hsu,hat]⟩ (by omega) (Le.mk _ _ ?_ ?_)
           · simp [num,upd,PV.kill];decide
           · simp [tx,M4,num,PV.kill,MObj.kill]
         · obtain ⟨j,hij⟩:∃ j,i=j+1:=⟨i - 1,by omega⟩
           have hj:j < p.log.length:=by omega
           obtain ⟨y,hy⟩:∃ y,p.log[j]=y:=⟨_,rfl⟩
           have hly:a7t p.log i=y.at_:=by subst hij;rw [a8h hj,hy]
           rw [hly] at A1 hsu
           have wj:IntKind.i64.wrap ((i:Int) - 1)=(j:Int):=by rw [wrap_i64 (by omega) (by omega)];omega
           have hp:0 < i:=by omega
           by_cases hA:x.at_ < y.at_
           · simp [num,hlt,hx,hy,hj,hp,wj,u1,tx,PV.kill,MObj.kill,hA,A1 (decide_eq_false (fun h=>by omega))]
           · simp [num,hlt,hx,hy,hj,hp,wj,u1,tx,PV.kill,MObj.kill,hA]
             refine LoopNext.mk (i+1) ⟨by omega,by rw [hsu];exact decide_eq_true ⟨by omega,hat2.2⟩⟩ (by omega) (Le.mk _ _ ?_ ?_)
             · simp [num,wi,PV.kill]
             · simp [tx,M4,num,PV.kill,MObj.kill]
       · have e:i=p.log.length:=by omega
         subst e
         rw [hall2,Bool.true_and]
         simp [num]
         refine j7 (X:=Nat) (fun i=>⟨l8 [(1,.ptr 1 0),(6,.val (num i))],l9 [(1,M4 p)]⟩) (fun i=>i≤p.wires.length∧(p.wires.take i).all (V8 p.next p.now)=true) (fun i=>p.wires.length - i) 0 (Le.mk _ _ ?_ ?_) ?_ ?_
         · simp [upd,num,PV.kill]
         · simp [M4,tx,num,MObj.kill,PV.kill]
         · simp
         · rintro i ⟨hi3,hall3⟩
           simp [num,M4]
           refine f6 (fun hlt3=>?_) (fun hlt3=>?_)
           · have hst:=Q4 p.wires (V8 p.next p.now) i hlt3
             rw [hall3,Bool.true_and] at hst
             obtain ⟨x,hx⟩:∃ x,p.wires[i]=x:=⟨_,rfl⟩
             have hbw:a0h 1048576 x:=by rw [← hx];exact hb.2.2.2.2 _ (List.getElem_mem hlt3)
             rw [hx] at hst
             have hW:=c5o p x hn2 hbw
             have wi:IntKind.i64.wrap ((i:Int)+1)=((i+1:Nat):Int):=by rw [wrap_i64 (by omega) (by omega)];omega
             have A1:V8 p.next p.now x=false→p.wires.all (V8 p.next p.now)=false:=fun h=>List.all_eq_false.2 ⟨x,by rw [← hx];exact List.getElem_mem hlt3,by simp [h]⟩
             simp [num,hlt3,hx,u4,tx]
             refine m0 rfl rfl (.inl rfl) hW ?_
             cases hk:V8 p.next p.now x with
             | false=>simp [A1 hk]
             | true=>
              simp
              refine LoopNext.mk (i+1) ⟨by omega,by rw [hst,hk]⟩ (by omega) (Le.mk _ _ ?_ ?_)
              · simp [num,wi]
              · simp [tx,M4,num]
           · have e:i=p.wires.length:=by omega
             subst e
             rw [List.take_length] at hall3
             simp [hall3]
end Go.Proofs
end
