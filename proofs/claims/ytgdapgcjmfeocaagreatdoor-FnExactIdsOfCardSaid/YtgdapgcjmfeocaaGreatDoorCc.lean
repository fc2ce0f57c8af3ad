/- Cc: merged out of KSl, KSp, KSt. -/
import Derived.Test.YtgdapgcjmfeocaaGreatDoorCa
import Derived.Test.YtgdapgcjmfeocaaGreatDoorAc
import Derived.Test.YtgdapgcjmfeocaaGreatDoorBa
set_option linter.unusedSectionVars false
set_option linter.unusedSimpArgs false
set_option linter.unusedVariables false
set_option maxRecDepth 100000
section
namespace Go.Proofs
open Go.PW Go.KP
attribute [local simp] RV.cells RV.one PV.cells PV.solid PV.one im ao kh ke RV.ofCells elems PV.killL
variable [GF]
theorem z1 (l:List Tx) (left:Int) (h0:0≤left) (h1:left≤1048576) (hx:bdS 9223372036854775807 (fun t=>t.length≤9223372036854775807) l):ag Tryz.prog 68 [.val (.list 1 (l.map tx)),.val (num left)] (.ret (.val (num (cut left (zS List.length l)))) []) []:=by
 refine aj mixed ok68 rfl (fun _=>rfl) ?_
 unfold ir68
 rw [aa]
 have hl:l.length≤9223372036854775807:=hx.1
 have hw:IntKind.i64.wrap (left - (l.length:Int))=left - l.length:=wrap_i64 (by omega) (by omega)
 have hzs:zS List.length l=l.length+io List.length l:=rfl
 by_cases h:left - (l.length:Int) < 0
 · rw [bl (by omega)]
   simp [ah,am,ax,ac,af,num,hw,h]
 · simp [ah,am,ax,ac,af,num,hw,h]
   refine ay (X:=Nat) (fun i=>⟨co [(0,.val (.list 1 (l.map tx))),(1,.val (num (left - l.length - (io List.length (l.take i):Nat)))),(5,.val (num i))],cu []⟩) (fun i=>i≤l.length∧0≤left - l.length - (io List.length (l.take i):Nat)) (fun i=>l.length - i) 0 (Le.mk _ _ ?_ ?_) ?_ ?_
   · simp [upd,num,io,PV.kill]
   · simp
   · simp [io];omega
   · rintro i ⟨hi,hg⟩
     simp [num]
     refine ak (fun h2=>?_) (fun h2=>?_)
     · have e1:(l.map tx)[i]?.getD .nilptr=tx l[i]:=by simp [List.getElem?_eq_getElem h2]
       have hsn:io List.length (l.take (i+1))=io List.length (l.take i)+List.length l[i]:=q8 _ h2
       have hle:=u7 (f:=List.length) l (i+1)
       have hxi:l[i].length≤9223372036854775807:=hx.2 _ (List.getElem_mem h2)
       have hw2:IntKind.i64.wrap (left - (l.length:Int) - (io List.length (l.take i):Int) - (l[i].length:Int))=left - (l.length:Int) - (io List.length (l.take i):Int) - (l[i].length:Int):=wrap_i64 (by omega) (by omega)
       by_cases h3:left - (l.length:Int) - (io List.length (l.take i):Int) - (l[i].length:Int) < 0
       · rw [bl (by omega)]
         simp [num,h2,e1,tx,ae,hw2,h3]
       · simp [num,h2,e1,tx,ae,hw2,h3]
         refine LoopNext.mk (i+1) ⟨by omega,by omega⟩ (by omega) (Le.mk _ _ ?_ ?_)
         · simp [num]
           exact ⟨by omega,wrap_i64 (by omega) (by omega)⟩
         · simp
     · have e1:i=l.length:=by omega
       subst e1
       rw [List.take_length] at *
       rw [j9 (by omega)]
       simp [num]
       omega
theorem z6 (l:List Tx) (hx:bdS 1048576 (fun t=>t.length≤1048576) l):ag Tryz.prog 88 [.val (.list 1 (l.map tx)),.val (.list 1 (l.map tx))] (.ret (.val (.bool true)) []) []:=by
 refine aj mixed ok88 rfl (fun _=>rfl) ?_
 unfold ir88
 rw [aa]
 have hl:l.length≤1048576:=hx.1
 simp [ah,am,ax,ac,af,num]
 refine ay (X:=Nat) (fun i=>⟨co [(0,.val (.list 1 (l.map tx))),(1,.val (.list 1 (l.map tx))),(5,.val (num i))],cu []⟩) (fun i=>i≤l.length) (fun i=>l.length - i) 0 (Le.mk _ _ ?_ ?_) ?_ ?_
 · simp [upd,num,PV.kill]
 · simp
 · simp
 · intro i hi
   simp [num]
   refine ak (fun h1=>?_) (fun h1=>?_)
   · have e1:(l.map tx)[i]?.getD .nilptr=tx l[i]:=by simp [List.getElem?_eq_getElem h1]
     simp [num,h1,e1,tx]
     refine LoopNext.mk (i+1) (by omega) (by omega) (Le.mk _ _ ?_ ?_)
     · simp [num];exact wrap_i64 (by omega) (by omega)
     · simp
   · simp
theorem Xj (x:LRule) (left:Int) (h0:0≤left) (h1:left≤1048576) (hx:oy 9223372036854775807 x):ag Tryz.prog 105 [.val (bk x),.val (num left)] (.ret (.val (num (cut left (pq x)))) []) []:=by
 refine aj mixed ok105 rfl (fun _=>rfl) ?_
 unfold ir105
 rw [aa]
 unfold oy at hx
 obtain ⟨b0,b1⟩:=hx
 unfold pq
 have w0:IntKind.i64.wrap (left - ((x.name.length:Nat):Int))=left - ((x.name.length:Nat):Int):=wrap_i64 (by omega) (by omega)
 by_cases k0:left - ((x.name.length:Nat):Int) < 0
 · rw [bl (by omega)]
   simp [ah,am,ax,ac,af,bk,tx,num,ae,ao,w0,k0]
 · simp [ah,am,ax,ac,af,bk,tx,num,ae,ao,w0,k0]
   refine ab rfl rfl (.inl rfl) (z1 x.words (left - (x.name.length:Nat)) (by omega) (by omega) b1) ?_
   by_cases k1:(left - (x.name.length:Nat)) - ((zS List.length x.words:Nat):Int) < 0
   · first | rw [bl (by omega),bl (by omega)] | rw [bl (by omega)]
     simp [bk,tx,num,ae,ao]
   · first | rw [j9 (by omega),j9 (by omega)] | rw [j9 (by omega)]
     simp [bk,tx,num,ae,ao,k0,k1]
     try omega
theorem Xo (x:LRule) (hx:oy 1048576 x):ag Tryz.prog 141 [.val (bk x),.val (bk x)] (.ret (.val (.bool true)) []) []:=by
 refine aj mixed ok141 rfl (fun _=>rfl) ?_
 unfold ir141
 rw [aa]
 unfold oy at hx
 obtain ⟨b0,b1⟩:=hx
 simp [ah,am,ax,ac,af,bk,tx,num,ao]
 refine ab rfl rfl (.inl rfl) (z6 x.words b1) ?_
 simp [bk,tx,num,ao]
theorem Uk (l:List LRule) (left:Int) (h0:0≤left) (h1:left≤1048576) (hx:bdS 9223372036854775807 (oy 9223372036854775807) l):ag Tryz.prog 69 [.val (.list 2 (l.map bk)),.val (num left)] (.ret (.val (num (cut left (zS pq l)))) []) []:=by
 refine aj mixed ok69 rfl (fun _=>rfl) ?_
 unfold ir69
 rw [aa]
 have hl:l.length≤9223372036854775807:=hx.1
 have hw:IntKind.i64.wrap (left - (l.length:Int))=left - l.length:=wrap_i64 (by omega) (by omega)
 have hzs:zS pq l=l.length+io pq l:=rfl
 by_cases h:left - (l.length:Int) < 0
 · rw [bl (by omega)]
   simp [ah,am,ax,ac,af,num,hw,h]
 · simp [ah,am,ax,ac,af,num,hw,h]
   refine ay (X:=Nat) (fun i=>⟨co [(0,.val (.list 2 (l.map bk))),(1,.val (num (left - l.length - (io pq (l.take i):Nat)))),(5,.val (num i))],cu []⟩) (fun i=>i≤l.length∧0≤left - l.length - (io pq (l.take i):Nat)) (fun i=>l.length - i) 0 (Le.mk _ _ ?_ ?_) ?_ ?_
   · simp [upd,num,io,PV.kill]
   · simp
   · simp [io];omega
   · rintro i ⟨hi,hg⟩
     simp [num]
     refine ak (fun h2=>?_) (fun h2=>?_)
     · have e1:(l.map bk)[i]?.getD .nilptr=bk l[i]:=by simp [List.getElem?_eq_getElem h2]
       have hsn:io pq (l.take (i+1))=io pq (l.take i)+pq l[i]:=q8 _ h2
       have hle:=u7 (f:=pq) l (i+1)
       simp [num,h2,e1,bk,tx]
       refine ab rfl rfl (.inl rfl) (Xj l[i] (left - l.length - (io pq (l.take i):Nat)) (by omega) (by omega) (hx.2 _ (List.getElem_mem h2))) ?_
       by_cases h3:left - (l.length:Int) - (io pq (l.take i):Int) - (pq l[i]:Int) < 0
       · have c1:cut (left - l.length - (io pq (l.take i):Nat)) (pq l[i])=-1:=bl (by omega)
         have c2:cut left (zS pq l)=-1:=bl (by omega)
         rw [c1,c2]
         simp [num]
       · have c1:cut (left - l.length - (io pq (l.take i):Nat)) (pq l[i])=left - l.length - (io pq (l.take i):Nat) - (pq l[i]:Nat):=j9 (by omega)
         rw [c1]
         simp [num,h3]
         refine LoopNext.mk (i+1) ⟨by omega,by omega⟩ (by omega) (Le.mk _ _ ?_ ?_)
         · simp [num]
           exact ⟨by omega,wrap_i64 (by omega) (by omega)⟩
         · simp
     · have e1:i=l.length:=by omega
       subst e1
       rw [List.take_length] at *
       rw [j9 (by omega)]
       simp [num]
       omega
theorem Up (l:List LRule) (hx:bdS 1048576 (oy 1048576) l):ag Tryz.prog 89 [.val (.list 2 (l.map bk)),.val (.list 2 (l.map bk))] (.ret (.val (.bool true)) []) []:=by
 refine aj mixed ok89 rfl (fun _=>rfl) ?_
 unfold ir89
 rw [aa]
 have hl:l.length≤1048576:=hx.1
 simp [ah,am,ax,ac,af,num]
 refine ay (X:=Nat) (fun i=>⟨co [(0,.val (.list 2 (l.map bk))),(1,.val (.list 2 (l.map bk))),(5,.val (num i))],cu []⟩) (fun i=>i≤l.length) (fun i=>l.length - i) 0 (Le.mk _ _ ?_ ?_) ?_ ?_
 · simp [upd,num,PV.kill]
 · simp
 · simp
 · intro i hi
   simp [num]
   refine ak (fun h1=>?_) (fun h1=>?_)
   · have e1:(l.map bk)[i]?.getD .nilptr=bk l[i]:=by simp [List.getElem?_eq_getElem h1]
     simp [num,h1,e1,bk,tx]
     refine ab rfl rfl (.inl rfl) (Xo l[i] (hx.2 _ (List.getElem_mem h1))) ?_
     simp
     refine LoopNext.mk (i+1) (by omega) (by omega) (Le.mk _ _ ?_ ?_)
     · simp [num];exact wrap_i64 (by omega) (by omega)
     · simp
   · simp
theorem Ra (x:LPolicy) (left:Int) (h0:0≤left) (h1:left≤1048576) (hx:p9 9223372036854775807 x):ag Tryz.prog 32 [.val (dn x),.val (num left)] (.ret (.val (num (cut left (sa x)))) []) []:=by
 refine aj mixed ok32 rfl (fun _=>rfl) ?_
 unfold ir32
 rw [aa]
 unfold p9 at hx
 obtain ⟨b0,b1,b2⟩:=hx
 unfold sa
 have w0:IntKind.i64.wrap (left - ((x.reportTo.length:Nat):Int))=left - ((x.reportTo.length:Nat):Int):=wrap_i64 (by omega) (by omega)
 by_cases k0:left - ((x.reportTo.length:Nat):Int) < 0
 · rw [bl (by omega)]
   simp [ah,am,ax,ac,af,dn,tx,num,ae,ao,w0,k0]
 · simp [ah,am,ax,ac,af,dn,tx,num,ae,ao,w0,k0]
   refine ab rfl rfl (.inl rfl) (z1 x.uris (left - (x.reportTo.length:Nat)) (by omega) (by omega) b1) ?_
   by_cases k1:(left - (x.reportTo.length:Nat)) - ((zS List.length x.uris:Nat):Int) < 0
   · first | rw [bl (by omega),bl (by omega)] | rw [bl (by omega)]
     simp [dn,tx,num,ae,ao]
   · rw [j9 (show ¬ (left - (x.reportTo.length:Nat)) - ((zS List.length x.uris:Nat):Int) < 0 by omega)]
     simp [dn,tx,num,ae,ao,k0,k1]
     refine ab rfl rfl (.inl rfl) (Uk x.rules (left - (x.reportTo.length:Nat) - (zS List.length x.uris:Nat)) (by omega) (by omega) b2) ?_
     by_cases k2:(left - (x.reportTo.length:Nat) - (zS List.length x.uris:Nat)) - ((zS pq x.rules:Nat):Int) < 0
     · first | rw [bl (by omega),bl (by omega)] | rw [bl (by omega)]
       simp [dn,tx,num,ae,ao]
     · first | rw [j9 (by omega),j9 (by omega)] | rw [j9 (by omega)]
       simp [dn,tx,num,ae,ao,k0,k1,k2]
       try omega
theorem Rd (x:LPolicy) (hx:p9 1048576 x):ag Tryz.prog 44 [.val (dn x),.val (dn x)] (.ret (.val (.bool true)) []) []:=by
 refine aj mixed ok44 rfl (fun _=>rfl) ?_
 unfold ir44
 rw [aa]
 unfold p9 at hx
 obtain ⟨b0,b1,b2⟩:=hx
 simp [ah,am,ax,ac,af,dn,tx,num,ao]
 refine ab rfl rfl (.inl rfl) (z6 x.uris b1) ?_
 simp [dn,tx,num,ao]
 refine ab rfl rfl (.inl rfl) (Up x.rules b2) ?_
 simp [dn,tx,num,ao]
end Go.Proofs
end
section
namespace Go.Proofs
open Go.PW Go.KP
attribute [local simp] RV.cells RV.one PV.cells PV.solid PV.one im ao kh ke RV.ofCells elems PV.killL
variable [GF]
theorem Ho (x:LTarget) (left:Int) (h0:0≤left) (h1:left≤1048576) (hx:nt 9223372036854775807 x):ag Tryz.prog 189 [.val (al x),.val (num left)] (.ret (.val (num (cut left (mu x)))) []) []:=by
 refine aj mixed ok189 rfl (fun _=>rfl) ?_
 unfold ir189
 rw [aa]
 unfold nt at hx
 have b0:=hx
 unfold mu
 have w0:IntKind.i64.wrap (left - ((x.url.length:Nat):Int))=left - ((x.url.length:Nat):Int):=wrap_i64 (by omega) (by omega)
 by_cases k0:left - ((x.url.length:Nat):Int) < 0
 · rw [bl (by omega)]
   simp [ah,am,ax,ac,af,al,tx,num,ae,ao,w0,k0]
 · rw [j9 (by omega)]
   simp [ah,am,ax,ac,af,al,tx,num,ae,ao,w0,k0]
   try omega
theorem Hm (x:LTarget) (hx:nt 1048576 x):ag Tryz.prog 194 [.val (al x)] (.ret (.val (al x)) []) []:=by
 refine aj mixed ok194 rfl (fun _=>rfl) ?_
 unfold ir194
 rw [aa]
 unfold nt at hx
 have b0:=hx
 simp [ah,am,ax,ac,af,al,tx,num,ao]
 refine (Kg (id:=2) (n:=3) (rs:=[tx x.url,num x.prio,num x.weight]) ?_ ?_ rfl (by omega)).trans ?_
 · simp
 · simp [tx,num]
 · simp [al,tx,num,ao]
theorem Hp (x:LTarget) (hx:nt 1048576 x):ag Tryz.prog 207 [.val (al x),.val (al x)] (.ret (.val (.bool true)) []) []:=by
 refine aj mixed ok207 rfl (fun _=>rfl) ?_
 unfold ir207
 rw [aa]
 unfold nt at hx
 have b0:=hx
 simp [ah,am,ax,ac,af,al,tx,num,ao]
theorem N8 (l:List LTarget) (left:Int) (h0:0≤left) (h1:left≤1048576) (hx:bdS 9223372036854775807 (nt 9223372036854775807) l):ag Tryz.prog 144 [.val (.list 3 (l.map al)),.val (num left)] (.ret (.val (num (cut left (zS mu l)))) []) []:=by
 refine aj mixed ok144 rfl (fun _=>rfl) ?_
 unfold ir144
 rw [aa]
 have hl:l.length≤9223372036854775807:=hx.1
 have hw:IntKind.i64.wrap (left - (l.length:Int))=left - l.length:=wrap_i64 (by omega) (by omega)
 have hzs:zS mu l=l.length+io mu l:=rfl
 by_cases h:left - (l.length:Int) < 0
 · rw [bl (by omega)]
   simp [ah,am,ax,ac,af,num,hw,h]
 · simp [ah,am,ax,ac,af,num,hw,h]
   refine ay (X:=Nat) (fun i=>⟨co [(0,.val (.list 3 (l.map al))),(1,.val (num (left - l.length - (io mu (l.take i):Nat)))),(5,.val (num i))],cu []⟩) (fun i=>i≤l.length∧0≤left - l.length - (io mu (l.take i):Nat)) (fun i=>l.length - i) 0 (Le.mk _ _ ?_ ?_) ?_ ?_
   · simp [upd,num,io,PV.kill]
   · simp
   · simp [io];omega
   · rintro i ⟨hi,hg⟩
     simp [num]
     refine ak (fun h2=>?_) (fun h2=>?_)
     · have e1:(l.map al)[i]?.getD .nilptr=al l[i]:=by simp [List.getElem?_eq_getElem h2]
       have hsn:io mu (l.take (i+1))=io mu (l.take i)+mu l[i]:=q8 _ h2
       have hle:=u7 (f:=mu) l (i+1)
       simp [num,h2,e1,al,tx]
       refine ab rfl rfl (.inl rfl) (Ho l[i] (left - l.length - (io mu (l.take i):Nat)) (by omega) (by omega) (hx.2 _ (List.getElem_mem h2))) ?_
       by_cases h3:left - (l.length:Int) - (io mu (l.take i):Int) - (mu l[i]:Int) < 0
       · have c1:cut (left - l.length - (io mu (l.take i):Nat)) (mu l[i])=-1:=bl (by omega)
         have c2:cut left (zS mu l)=-1:=bl (by omega)
         rw [c1,c2]
         simp [num]
       · have c1:cut (left - l.length - (io mu (l.take i):Nat)) (mu l[i])=left - l.length - (io mu (l.take i):Nat) - (mu l[i]:Nat):=j9 (by omega)
         rw [c1]
         simp [num,h3]
         refine LoopNext.mk (i+1) ⟨by omega,by omega⟩ (by omega) (Le.mk _ _ ?_ ?_)
         · simp [num]
           exact ⟨by omega,wrap_i64 (by omega) (by omega)⟩
         · simp
     · have e1:i=l.length:=by omega
       subst e1
       rw [List.take_length] at *
       rw [j9 (by omega)]
       simp [num]
       omega
theorem Ob (l:List LTarget) (hx:bdS 1048576 (nt 1048576) l):ag Tryz.prog 175 [.val (.list 3 (l.map al)),.val (.list 3 (l.map al))] (.ret (.val (.bool true)) []) []:=by
 refine aj mixed ok175 rfl (fun _=>rfl) ?_
 unfold ir175
 rw [aa]
 have hl:l.length≤1048576:=hx.1
 simp [ah,am,ax,ac,af,num]
 refine ay (X:=Nat) (fun i=>⟨co [(0,.val (.list 3 (l.map al))),(1,.val (.list 3 (l.map al))),(5,.val (num i))],cu []⟩) (fun i=>i≤l.length) (fun i=>l.length - i) 0 (Le.mk _ _ ?_ ?_) ?_ ?_
 · simp [upd,num,PV.kill]
 · simp
 · simp
 · intro i hi
   simp [num]
   refine ak (fun h1=>?_) (fun h1=>?_)
   · have e1:(l.map al)[i]?.getD .nilptr=al l[i]:=by simp [List.getElem?_eq_getElem h1]
     simp [num,h1,e1,al,tx]
     refine ab rfl rfl (.inl rfl) (Hp l[i] (hx.2 _ (List.getElem_mem h1))) ?_
     simp
     refine LoopNext.mk (i+1) (by omega) (by omega) (Le.mk _ _ ?_ ?_)
     · simp [num];exact wrap_i64 (by omega) (by omega)
     · simp
   · simp
theorem Un (x:LGroup) (left:Int) (h0:0≤left) (h1:left≤1048576) (hx:sl 9223372036854775807 x):ag Tryz.prog 102 [.val (ki x),.val (num left)] (.ret (.val (num (cut left (uv x)))) []) []:=by
 refine aj mixed ok102 rfl (fun _=>rfl) ?_
 unfold ir102
 rw [aa]
 unfold sl at hx
 obtain ⟨b0,b1⟩:=hx
 unfold uv
 have w0:IntKind.i64.wrap (left - ((x.name.length:Nat):Int))=left - ((x.name.length:Nat):Int):=wrap_i64 (by omega) (by omega)
 by_cases k0:left - ((x.name.length:Nat):Int) < 0
 · rw [bl (by omega)]
   simp [ah,am,ax,ac,af,ki,tx,num,ae,ao,w0,k0]
 · simp [ah,am,ax,ac,af,ki,tx,num,ae,ao,w0,k0]
   refine ab rfl rfl (.inl rfl) (N8 x.targets (left - (x.name.length:Nat)) (by omega) (by omega) b1) ?_
   by_cases k1:(left - (x.name.length:Nat)) - ((zS mu x.targets:Nat):Int) < 0
   · first | rw [bl (by omega),bl (by omega)] | rw [bl (by omega)]
     simp [ki,tx,num,ae,ao]
   · first | rw [j9 (by omega),j9 (by omega)] | rw [j9 (by omega)]
     simp [ki,tx,num,ae,ao,k0,k1]
     try omega
theorem Us (x:LGroup) (hx:sl 1048576 x):ag Tryz.prog 138 [.val (ki x),.val (ki x)] (.ret (.val (.bool true)) []) []:=by
 refine aj mixed ok138 rfl (fun _=>rfl) ?_
 unfold ir138
 rw [aa]
 unfold sl at hx
 obtain ⟨b0,b1⟩:=hx
 simp [ah,am,ax,ac,af,ki,tx,num,ao]
 refine ab rfl rfl (.inl rfl) (Ob x.targets b1) ?_
 simp [ki,tx,num,ao]
end Go.Proofs
end
section
namespace Go.Proofs
open Go.PW Go.KP
attribute [local simp] RV.cells RV.one PV.cells PV.solid PV.one im ao kh ke RV.ofCells elems PV.killL
variable [GF]
theorem Xm (l:List Int) (left:Int) (h0:0≤left) (h1:left≤1048576) (hl:l.length≤9223372036854775807):ag Tryz.prog 106 [.val (.list 1 (l.map num)),.val (num left)] (.ret (.val (num (cut left l.length))) []) []:=by
 refine aj mixed ok106 rfl (fun _=>rfl) ?_
 unfold ir106
 rw [aa]
 have hw:IntKind.i64.wrap (left - (l.length:Int))=left - l.length:=wrap_i64 (by omega) (by omega)
 by_cases h:left - (l.length:Int) < 0
 · rw [bl (by omega)]
   simp [ah,am,ax,ac,af,num,hw,h]
 · rw [j9 (by omega)]
   simp [ah,am,ax,ac,af,num,hw,h]
theorem Od (l:List Int) (hx:l.length≤1048576):ag Tryz.prog 24 [.val (.list 1 (l.map num)),.val (.list 1 (l.map num))] (.ret (.val (.bool true)) []) []:=by
 refine aj mixed ok24 rfl (fun _=>rfl) ?_
 unfold ir24
 rw [aa]
 have hl:l.length≤1048576:=hx
 simp [ah,am,ax,ac,af,num]
 refine ay (X:=Nat) (fun i=>⟨co [(0,.val (.list 1 (l.map num))),(1,.val (.list 1 (l.map num))),(5,.val (num i))],cu []⟩) (fun i=>i≤l.length) (fun i=>l.length - i) 0 (Le.mk _ _ ?_ ?_) ?_ ?_
 · simp [upd,num,PV.kill]
 · simp
 · simp
 · intro i hi
   simp [num]
   refine ak (fun h1=>?_) (fun h1=>?_)
   · have e1:(l.map num)[i]?.getD .nilptr=num l[i]:=by simp [List.getElem?_eq_getElem h1]
     simp [num,h1,e1,tx]
     refine LoopNext.mk (i+1) (by omega) (by omega) (Le.mk _ _ ?_ ?_)
     · simp [num];exact wrap_i64 (by omega) (by omega)
     · simp
   · simp
theorem Q9 (x:LReport) (left:Int) (h0:0≤left) (h1:left≤1048576) (hx:ov 9223372036854775807 x):ag Tryz.prog 190 [.val (aq x),.val (num left)] (.ret (.val (num (cut left (mj x)))) []) []:=by
 refine aj mixed ok190 rfl (fun _=>rfl) ?_
 unfold ir190
 rw [aa]
 unfold ov at hx
 have b0:=hx
 unfold mj
 have w0:IntKind.i64.wrap (left - ((x.body.length:Nat):Int))=left - ((x.body.length:Nat):Int):=wrap_i64 (by omega) (by omega)
 by_cases k0:left - ((x.body.length:Nat):Int) < 0
 · rw [bl (by omega)]
   simp [ah,am,ax,ac,af,aq,tx,num,ae,ao,w0,k0]
 · rw [j9 (by omega)]
   simp [ah,am,ax,ac,af,aq,tx,num,ae,ao,w0,k0]
   try omega
theorem Q8 (x:LReport) (hx:ov 1048576 x):ag Tryz.prog 195 [.val (aq x)] (.ret (.val (aq x)) []) []:=by
 refine aj mixed ok195 rfl (fun _=>rfl) ?_
 unfold ir195
 rw [aa]
 unfold ov at hx
 have b0:=hx
 simp [ah,am,ax,ac,af,aq,tx,num,ao]
 refine (Kg (id:=2) (n:=4) (rs:=[num x.id,num x.born,num x.tries,tx x.body]) ?_ ?_ rfl (by omega)).trans ?_
 · simp
 · simp [tx,num]
 · simp [aq,tx,num,ao]
theorem Rc (x:LReport) (hx:ov 1048576 x):ag Tryz.prog 208 [.val (aq x),.val (aq x)] (.ret (.val (.bool true)) []) []:=by
 refine aj mixed ok208 rfl (fun _=>rfl) ?_
 unfold ir208
 rw [aa]
 unfold ov at hx
 have b0:=hx
 simp [ah,am,ax,ac,af,aq,tx,num,ao]
theorem N9 (l:List LReport) (left:Int) (h0:0≤left) (h1:left≤1048576) (hx:bdS 9223372036854775807 (ov 9223372036854775807) l):ag Tryz.prog 146 [.val (.list 4 (l.map aq)),.val (num left)] (.ret (.val (num (cut left (zS mj l)))) []) []:=by
 refine aj mixed ok146 rfl (fun _=>rfl) ?_
 unfold ir146
 rw [aa]
 have hl:l.length≤9223372036854775807:=hx.1
 have hw:IntKind.i64.wrap (left - (l.length:Int))=left - l.length:=wrap_i64 (by omega) (by omega)
 have hzs:zS mj l=l.length+io mj l:=rfl
 by_cases h:left - (l.length:Int) < 0
 · rw [bl (by omega)]
   simp [ah,am,ax,ac,af,num,hw,h]
 · simp [ah,am,ax,ac,af,num,hw,h]
   refine ay (X:=Nat) (fun i=>⟨co [(0,.val (.list 4 (l.map aq))),(1,.val (num (left - l.length - (io mj (l.take i):Nat)))),(5,.val (num i))],cu []⟩) (fun i=>i≤l.length∧0≤left - l.length - (io mj (l.take i):Nat)) (fun i=>l.length - i) 0 (Le.mk _ _ ?_ ?_) ?_ ?_
   · simp [upd,num,io,PV.kill]
   · simp
   · simp [io];omega
   · rintro i ⟨hi,hg⟩
     simp [num]
     refine ak (fun h2=>?_) (fun h2=>?_)
     · have e1:(l.map aq)[i]?.getD .nilptr=aq l[i]:=by simp [List.getElem?_eq_getElem h2]
       have hsn:io mj (l.take (i+1))=io mj (l.take i)+mj l[i]:=q8 _ h2
       have hle:=u7 (f:=mj) l (i+1)
       simp [num,h2,e1,aq,tx]
       refine ab rfl rfl (.inl rfl) (Q9 l[i] (left - l.length - (io mj (l.take i):Nat)) (by omega) (by omega) (hx.2 _ (List.getElem_mem h2))) ?_
       by_cases h3:left - (l.length:Int) - (io mj (l.take i):Int) - (mj l[i]:Int) < 0
       · have c1:cut (left - l.length - (io mj (l.take i):Nat)) (mj l[i])=-1:=bl (by omega)
         have c2:cut left (zS mj l)=-1:=bl (by omega)
         rw [c1,c2]
         simp [num]
       · have c1:cut (left - l.length - (io mj (l.take i):Nat)) (mj l[i])=left - l.length - (io mj (l.take i):Nat) - (mj l[i]:Nat):=j9 (by omega)
         rw [c1]
         simp [num,h3]
         refine LoopNext.mk (i+1) ⟨by omega,by omega⟩ (by omega) (Le.mk _ _ ?_ ?_)
         · simp [num]
           exact ⟨by omega,wrap_i64 (by omega) (by omega)⟩
         · simp
     · have e1:i=l.length:=by omega
       subst e1
       rw [List.take_length] at *
       rw [j9 (by omega)]
       simp [num]
       omega
theorem Oc (l:List LReport) (hx:bdS 1048576 (ov 1048576) l):ag Tryz.prog 177 [.val (.list 4 (l.map aq)),.val (.list 4 (l.map aq))] (.ret (.val (.bool true)) []) []:=by
 refine aj mixed ok177 rfl (fun _=>rfl) ?_
 unfold ir177
 rw [aa]
 have hl:l.length≤1048576:=hx.1
 simp [ah,am,ax,ac,af,num]
 refine ay (X:=Nat) (fun i=>⟨co [(0,.val (.list 4 (l.map aq))),(1,.val (.list 4 (l.map aq))),(5,.val (num i))],cu []⟩) (fun i=>i≤l.length) (fun i=>l.length - i) 0 (Le.mk _ _ ?_ ?_) ?_ ?_
 · simp [upd,num,PV.kill]
 · simp
 · simp
 · intro i hi
   simp [num]
   refine ak (fun h1=>?_) (fun h1=>?_)
   · have e1:(l.map aq)[i]?.getD .nilptr=aq l[i]:=by simp [List.getElem?_eq_getElem h1]
     simp [num,h1,e1,aq,tx]
     refine ab rfl rfl (.inl rfl) (Rc l[i] (hx.2 _ (List.getElem_mem h1))) ?_
     simp
     refine LoopNext.mk (i+1) (by omega) (by omega) (Le.mk _ _ ?_ ?_)
     · simp [num];exact wrap_i64 (by omega) (by omega)
     · simp
   · simp
theorem Ul (x:LQueue) (left:Int) (h0:0≤left) (h1:left≤1048576) (hx:tk 9223372036854775807 x):ag Tryz.prog 104 [.val (j8 x),.val (num left)] (.ret (.val (num (cut left (Bp x)))) []) []:=by
 refine aj mixed ok104 rfl (fun _=>rfl) ?_
 unfold ir104
 rw [aa]
 unfold tk at hx
 obtain ⟨b0,b1⟩:=hx
 unfold Bp
 simp [ah,am,ax,ac,af,j8,tx,num,ae,ao]
 refine ab rfl rfl (.inl rfl) (N9 x.items left (by omega) (by omega) b0) ?_
 by_cases k0:left - ((zS mj x.items:Nat):Int) < 0
 · first | rw [bl (by omega),bl (by omega)] | rw [bl (by omega)]
   simp [j8,tx,num,ae,ao]
 · rw [j9 (show ¬ left - ((zS mj x.items:Nat):Int) < 0 by omega)]
   simp [j8,tx,num,ae,ao,k0]
   refine ab rfl rfl (.inl rfl) (z1 x.recent (left - (zS mj x.items:Nat)) (by omega) (by omega) b1) ?_
   by_cases k1:(left - (zS mj x.items:Nat)) - ((zS List.length x.recent:Nat):Int) < 0
   · first | rw [bl (by omega),bl (by omega)] | rw [bl (by omega)]
     simp [j8,tx,num,ae,ao]
   · first | rw [j9 (by omega),j9 (by omega)] | rw [j9 (by omega)]
     simp [j8,tx,num,ae,ao,k0,k1]
     try omega
theorem Uq (x:LQueue) (hx:tk 1048576 x):ag Tryz.prog 140 [.val (j8 x),.val (j8 x)] (.ret (.val (.bool true)) []) []:=by
 refine aj mixed ok140 rfl (fun _=>rfl) ?_
 unfold ir140
 rw [aa]
 unfold tk at hx
 obtain ⟨b0,b1⟩:=hx
 simp [ah,am,ax,ac,af,j8,tx,num,ao]
 refine ab rfl rfl (.inl rfl) (Oc x.items b0) ?_
 simp [j8,tx,num,ao]
 refine ab rfl rfl (.inl rfl) (z6 x.recent b1) ?_
 simp [j8,tx,num,ao]
theorem Xl (x:LPeer) (left:Int) (h0:0≤left) (h1:left≤1048576) (hx:rc 9223372036854775807 x):ag Tryz.prog 145 [.val (ig x),.val (num left)] (.ret (.val (num (cut left (pf x)))) []) []:=by
 refine aj mixed ok145 rfl (fun _=>rfl) ?_
 unfold ir145
 rw [aa]
 unfold rc at hx
 have b0:=hx
 unfold pf
 simp [ah,am,ax,ac,af,al,ig,tx,num,ae,ao]
 refine ab rfl rfl (.inl rfl) (Ho x.target left (by omega) (by omega) b0) ?_
 by_cases k0:left - ((mu x.target:Nat):Int) < 0
 · first | rw [bl (by omega),bl (by omega)] | rw [bl (by omega)]
   simp [al,ig,tx,num,ae,ao]
 · first | rw [j9 (by omega),j9 (by omega)] | rw [j9 (by omega)]
   simp [al,ig,tx,num,ae,ao,k0]
   try omega
theorem Xh (x:LPeer) (hx:rc 1048576 x):ag Tryz.prog 156 [.val (ig x)] (.ret (.val (ig x)) []) []:=by
 refine aj mixed ok156 rfl (fun _=>rfl) ?_
 unfold ir156
 rw [aa]
 unfold rc at hx
 have b0:=hx
 simp [ah,am,ax,ac,af,al,ig,tx,num,ao]
 refine ab rfl rfl (.inl rfl) (Hm x.target b0) ?_
 simp [al,ig,tx,num,ao]
 refine (Kg (id:=2) (n:=6) (rs:=[tx x.target.url,num x.target.prio,num x.target.weight,num x.fails,num x.retry,.bool x.gone]) ?_ ?_ rfl (by omega)).trans ?_
 · simp
 · simp [tx,num]
 · simp [al,ig,tx,num,ao]
theorem Xq (x:LPeer) (hx:rc 1048576 x):ag Tryz.prog 176 [.val (ig x),.val (ig x)] (.ret (.val (.bool true)) []) []:=by
 refine aj mixed ok176 rfl (fun _=>rfl) ?_
 unfold ir176
 rw [aa]
 unfold rc at hx
 have b0:=hx
 simp [ah,am,ax,ac,af,al,ig,tx,num,ao]
 refine ab rfl rfl (.inl rfl) (Hp x.target b0) ?_
 simp [al,ig,tx,num,ao]
theorem Um (l:List LPeer) (left:Int) (h0:0≤left) (h1:left≤1048576) (hx:bdS 9223372036854775807 (rc 9223372036854775807) l):ag Tryz.prog 103 [.val (.list 6 (l.map ig)),.val (num left)] (.ret (.val (num (cut left (zS pf l)))) []) []:=by
 refine aj mixed ok103 rfl (fun _=>rfl) ?_
 unfold ir103
 rw [aa]
 have hl:l.length≤9223372036854775807:=hx.1
 have hw:IntKind.i64.wrap (left - (l.length:Int))=left - l.length:=wrap_i64 (by omega) (by omega)
 have hzs:zS pf l=l.length+io pf l:=rfl
 by_cases h:left - (l.length:Int) < 0
 · rw [bl (by omega)]
   simp [ah,am,ax,ac,af,num,hw,h]
 · simp [ah,am,ax,ac,af,num,hw,h]
   refine ay (X:=Nat) (fun i=>⟨co [(0,.val (.list 6 (l.map ig))),(1,.val (num (left - l.length - (io pf (l.take i):Nat)))),(5,.val (num i))],cu []⟩) (fun i=>i≤l.length∧0≤left - l.length - (io pf (l.take i):Nat)) (fun i=>l.length - i) 0 (Le.mk _ _ ?_ ?_) ?_ ?_
   · simp [upd,num,io,PV.kill]
   · simp
   · simp [io];omega
   · rintro i ⟨hi,hg⟩
     simp [num]
     refine ak (fun h2=>?_) (fun h2=>?_)
     · have e1:(l.map ig)[i]?.getD .nilptr=ig l[i]:=by simp [List.getElem?_eq_getElem h2]
       have hsn:io pf (l.take (i+1))=io pf (l.take i)+pf l[i]:=q8 _ h2
       have hle:=u7 (f:=pf) l (i+1)
       simp [num,h2,e1,al,ig,tx]
       refine ab rfl rfl (.inl rfl) (Xl l[i] (left - l.length - (io pf (l.take i):Nat)) (by omega) (by omega) (hx.2 _ (List.getElem_mem h2))) ?_
       by_cases h3:left - (l.length:Int) - (io pf (l.take i):Int) - (pf l[i]:Int) < 0
       · have c1:cut (left - l.length - (io pf (l.take i):Nat)) (pf l[i])=-1:=bl (by omega)
         have c2:cut left (zS pf l)=-1:=bl (by omega)
         rw [c1,c2]
         simp [num]
       · have c1:cut (left - l.length - (io pf (l.take i):Nat)) (pf l[i])=left - l.length - (io pf (l.take i):Nat) - (pf l[i]:Nat):=j9 (by omega)
         rw [c1]
         simp [num,h3]
         refine LoopNext.mk (i+1) ⟨by omega,by omega⟩ (by omega) (Le.mk _ _ ?_ ?_)
         · simp [num]
           exact ⟨by omega,wrap_i64 (by omega) (by omega)⟩
         · simp
     · have e1:i=l.length:=by omega
       subst e1
       rw [List.take_length] at *
       rw [j9 (by omega)]
       simp [num]
       omega
theorem Ur (l:List LPeer) (hx:bdS 1048576 (rc 1048576) l):ag Tryz.prog 139 [.val (.list 6 (l.map ig)),.val (.list 6 (l.map ig))] (.ret (.val (.bool true)) []) []:=by
 refine aj mixed ok139 rfl (fun _=>rfl) ?_
 unfold ir139
 rw [aa]
 have hl:l.length≤1048576:=hx.1
 simp [ah,am,ax,ac,af,num]
 refine ay (X:=Nat) (fun i=>⟨co [(0,.val (.list 6 (l.map ig))),(1,.val (.list 6 (l.map ig))),(5,.val (num i))],cu []⟩) (fun i=>i≤l.length) (fun i=>l.length - i) 0 (Le.mk _ _ ?_ ?_) ?_ ?_
 · simp [upd,num,PV.kill]
 · simp
 · simp
 · intro i hi
   simp [num]
   refine ak (fun h1=>?_) (fun h1=>?_)
   · have e1:(l.map ig)[i]?.getD .nilptr=ig l[i]:=by simp [List.getElem?_eq_getElem h1]
     simp [num,h1,e1,al,ig,tx]
     refine ab rfl rfl (.inl rfl) (Xq l[i] (hx.2 _ (List.getElem_mem h1))) ?_
     simp
     refine LoopNext.mk (i+1) (by omega) (by omega) (Le.mk _ _ ?_ ?_)
     · simp [num];exact wrap_i64 (by omega) (by omega)
     · simp
   · simp
theorem Oa (x:LChannel) (left:Int) (h0:0≤left) (h1:left≤1048576) (hx:md 9223372036854775807 x):ag Tryz.prog 67 [.val (aw x),.val (num left)] (.ret (.val (num (cut left (kc x)))) []) []:=by
 refine aj mixed ok67 rfl (fun _=>rfl) ?_
 unfold ir67
 rw [aa]
 unfold md at hx
 obtain ⟨b0,b1,b2⟩:=hx
 unfold kc
 simp [ah,am,ax,ac,af,ki,j8,aw,tx,num,ae,ao]
 refine ab rfl rfl (.inl rfl) (Un x.group left (by omega) (by omega) b0) ?_
 by_cases k0:left - ((uv x.group:Nat):Int) < 0
 · first | rw [bl (by omega),bl (by omega)] | rw [bl (by omega)]
   simp [ki,j8,aw,tx,num,ae,ao]
 · rw [j9 (show ¬ left - ((uv x.group:Nat):Int) < 0 by omega)]
   simp [ki,j8,aw,tx,num,ae,ao,k0]
   refine ab rfl rfl (.inl rfl) (Um x.peers (left - (uv x.group:Nat)) (by omega) (by omega) b1) ?_
   by_cases k1:(left - (uv x.group:Nat)) - ((zS pf x.peers:Nat):Int) < 0
   · first | rw [bl (by omega),bl (by omega)] | rw [bl (by omega)]
     simp [ki,j8,aw,tx,num,ae,ao]
   · rw [j9 (show ¬ (left - (uv x.group:Nat)) - ((zS pf x.peers:Nat):Int) < 0 by omega)]
     simp [ki,j8,aw,tx,num,ae,ao,k0,k1]
     refine ab rfl rfl (.inl rfl) (Ul x.queue (left - (uv x.group:Nat) - (zS pf x.peers:Nat)) (by omega) (by omega) b2) ?_
     by_cases k2:(left - (uv x.group:Nat) - (zS pf x.peers:Nat)) - ((Bp x.queue:Nat):Int) < 0
     · first | rw [bl (by omega),bl (by omega)] | rw [bl (by omega)]
       simp [ki,j8,aw,tx,num,ae,ao]
     · first | rw [j9 (by omega),j9 (by omega)] | rw [j9 (by omega)]
       simp [ki,j8,aw,tx,num,ae,ao,k0,k1,k2]
       try omega
theorem Oe (x:LChannel) (hx:md 1048576 x):ag Tryz.prog 87 [.val (aw x),.val (aw x)] (.ret (.val (.bool true)) []) []:=by
 refine aj mixed ok87 rfl (fun _=>rfl) ?_
 unfold ir87
 rw [aa]
 unfold md at hx
 obtain ⟨b0,b1,b2⟩:=hx
 simp [ah,am,ax,ac,af,ki,j8,aw,tx,num,ao]
 refine ab rfl rfl (.inl rfl) (Us x.group b0) ?_
 simp [ki,j8,aw,tx,num,ao]
 refine ab rfl rfl (.inl rfl) (Ur x.peers b1) ?_
 simp [ki,j8,aw,tx,num,ao]
 refine ab rfl rfl (.inl rfl) (Uq x.queue b2) ?_
 simp [ki,j8,aw,tx,num,ao]
theorem Lq (l:List LChannel) (left:Int) (h0:0≤left) (h1:left≤1048576) (hx:bdS 9223372036854775807 (md 9223372036854775807) l):ag Tryz.prog 31 [.val (.list 6 (l.map aw)),.val (num left)] (.ret (.val (num (cut left (zS kc l)))) []) []:=by
 refine aj mixed ok31 rfl (fun _=>rfl) ?_
 unfold ir31
 rw [aa]
 have hl:l.length≤9223372036854775807:=hx.1
 have hw:IntKind.i64.wrap (left - (l.length:Int))=left - l.length:=wrap_i64 (by omega) (by omega)
 have hzs:zS kc l=l.length+io kc l:=rfl
 by_cases h:left - (l.length:Int) < 0
 · rw [bl (by omega)]
   simp [ah,am,ax,ac,af,num,hw,h]
 · simp [ah,am,ax,ac,af,num,hw,h]
   refine ay (X:=Nat) (fun i=>⟨co [(0,.val (.list 6 (l.map aw))),(1,.val (num (left - l.length - (io kc (l.take i):Nat)))),(5,.val (num i))],cu []⟩) (fun i=>i≤l.length∧0≤left - l.length - (io kc (l.take i):Nat)) (fun i=>l.length - i) 0 (Le.mk _ _ ?_ ?_) ?_ ?_
   · simp [upd,num,io,PV.kill]
   · simp
   · simp [io];omega
   · rintro i ⟨hi,hg⟩
     simp [num]
     refine ak (fun h2=>?_) (fun h2=>?_)
     · have e1:(l.map aw)[i]?.getD .nilptr=aw l[i]:=by simp [List.getElem?_eq_getElem h2]
       have hsn:io kc (l.take (i+1))=io kc (l.take i)+kc l[i]:=q8 _ h2
       have hle:=u7 (f:=kc) l (i+1)
       simp [num,h2,e1,ki,j8,aw,tx]
       refine ab rfl rfl (.inl rfl) (Oa l[i] (left - l.length - (io kc (l.take i):Nat)) (by omega) (by omega) (hx.2 _ (List.getElem_mem h2))) ?_
       by_cases h3:left - (l.length:Int) - (io kc (l.take i):Int) - (kc l[i]:Int) < 0
       · have c1:cut (left - l.length - (io kc (l.take i):Nat)) (kc l[i])=-1:=bl (by omega)
         have c2:cut left (zS kc l)=-1:=bl (by omega)
         rw [c1,c2]
         simp [num]
       · have c1:cut (left - l.length - (io kc (l.take i):Nat)) (kc l[i])=left - l.length - (io kc (l.take i):Nat) - (kc l[i]:Nat):=j9 (by omega)
         rw [c1]
         simp [num,h3]
         refine LoopNext.mk (i+1) ⟨by omega,by omega⟩ (by omega) (Le.mk _ _ ?_ ?_)
         · simp [num]
           exact ⟨by omega,wrap_i64 (by omega) (by omega)⟩
         · simp
     · have e1:i=l.length:=by omega
       subst e1
       rw [List.take_length] at *
       rw [j9 (by omega)]
       simp [num]
       omega
theorem Lr (l:List LChannel) (hx:bdS 1048576 (md 1048576) l):ag Tryz.prog 43 [.val (.list 6 (l.map aw)),.val (.list 6 (l.map aw))] (.ret (.val (.bool true)) []) []:=by
 refine aj mixed ok43 rfl (fun _=>rfl) ?_
 unfold ir43
 rw [aa]
 have hl:l.length≤1048576:=hx.1
 simp [ah,am,ax,ac,af,num]
 refine ay (X:=Nat) (fun i=>⟨co [(0,.val (.list 6 (l.map aw))),(1,.val (.list 6 (l.map aw))),(5,.val (num i))],cu []⟩) (fun i=>i≤l.length) (fun i=>l.length - i) 0 (Le.mk _ _ ?_ ?_) ?_ ?_
 · simp [upd,num,PV.kill]
 · simp
 · simp
 · intro i hi
   simp [num]
   refine ak (fun h1=>?_) (fun h1=>?_)
   · have e1:(l.map aw)[i]?.getD .nilptr=aw l[i]:=by simp [List.getElem?_eq_getElem h1]
     simp [num,h1,e1,ki,j8,aw,tx]
     refine ab rfl rfl (.inl rfl) (Oe l[i] (hx.2 _ (List.getElem_mem h1))) ?_
     simp
     refine LoopNext.mk (i+1) (by omega) (by omega) (Le.mk _ _ ?_ ?_)
     · simp [num];exact wrap_i64 (by omega) (by omega)
     · simp
   · simp
theorem Rb (l:List LEntry) (left:Int) (h0:0≤left) (h1:left≤1048576) (hl:l.length≤9223372036854775807):ag Tryz.prog 33 [.val (.list 3 (l.map eo)),.val (num left)] (.ret (.val (num (cut left l.length))) []) []:=by
 refine aj mixed ok33 rfl (fun _=>rfl) ?_
 unfold ir33
 rw [aa]
 have hw:IntKind.i64.wrap (left - (l.length:Int))=left - l.length:=wrap_i64 (by omega) (by omega)
 by_cases h:left - (l.length:Int) < 0
 · rw [bl (by omega)]
   simp [ah,am,ax,ac,af,num,hw,h]
 · rw [j9 (by omega)]
   simp [ah,am,ax,ac,af,num,hw,h]
theorem Ui (x:LEntry) (hx:Dj 1048576 x):ag Tryz.prog 78 [.val (eo x)] (.ret (.val (eo x)) []) []:=by
 refine aj mixed ok78 rfl (fun _=>rfl) ?_
 unfold ir78
 rw [aa]
 simp [ah,am,ax,ac,af,eo,tx,num,ao]
 refine (Kg (id:=2) (n:=3) (rs:=[num x.kind,num x.id,num x.at_]) ?_ ?_ rfl (by omega)).trans ?_
 · simp
 · simp [tx,num]
 · simp [eo,tx,num,ao]
theorem Ut (x:LEntry) (hx:Dj 1048576 x):ag Tryz.prog 52 [.val (eo x),.val (eo x)] (.ret (.val (.bool true)) []) []:=by
 refine aj mixed ok52 rfl (fun _=>rfl) ?_
 unfold ir52
 rw [aa]
 simp [ah,am,ax,ac,af,eo,tx,num,ao]
theorem Re (l:List LEntry) (hx:l.length≤1048576):ag Tryz.prog 18 [.val (.list 3 (l.map eo)),.val (.list 3 (l.map eo))] (.ret (.val (.bool true)) []) []:=by
 refine aj mixed ok18 rfl (fun _=>rfl) ?_
 unfold ir18
 rw [aa]
 have hl:l.length≤1048576:=hx
 simp [ah,am,ax,ac,af,num]
 refine ay (X:=Nat) (fun i=>⟨co [(0,.val (.list 3 (l.map eo))),(1,.val (.list 3 (l.map eo))),(5,.val (num i))],cu []⟩) (fun i=>i≤l.length) (fun i=>l.length - i) 0 (Le.mk _ _ ?_ ?_) ?_ ?_
 · simp [upd,num,PV.kill]
 · simp
 · simp
 · intro i hi
   simp [num]
   refine ak (fun h1=>?_) (fun h1=>?_)
   · have e1:(l.map eo)[i]?.getD .nilptr=eo l[i]:=by simp [List.getElem?_eq_getElem h1]
     simp [num,h1,e1,eo,tx]
     refine ab rfl rfl (.inl rfl) (Ut l[i] trivial) ?_
     simp
     refine LoopNext.mk (i+1) (by omega) (by omega) (Le.mk _ _ ?_ ?_)
     · simp [num];exact wrap_i64 (by omega) (by omega)
     · simp
   · simp
theorem Xi (x:LWire) (left:Int) (h0:0≤left) (h1:left≤1048576) (hx:ph 9223372036854775807 x):ag Tryz.prog 70 [.val (ja x),.val (num left)] (.ret (.val (num (cut left (pp x)))) []) []:=by
 refine aj mixed ok70 rfl (fun _=>rfl) ?_
 unfold ir70
 rw [aa]
 unfold ph at hx
 obtain ⟨b0,b1,b2,b3⟩:=hx
 unfold pp
 have w0:IntKind.i64.wrap (left - ((x.group.length:Nat):Int))=left - ((x.group.length:Nat):Int):=wrap_i64 (by omega) (by omega)
 by_cases k0:left - ((x.group.length:Nat):Int) < 0
 · rw [bl (by omega)]
   simp [ah,am,ax,ac,af,ja,tx,num,ae,ao,w0,k0]
 · skip
   have w1:IntKind.i64.wrap ((left - (x.group.length:Nat)) - ((x.url.length:Nat):Int))=(left - (x.group.length:Nat)) - ((x.url.length:Nat):Int):=wrap_i64 (by omega) (by omega)
   by_cases k1:(left - (x.group.length:Nat)) - ((x.url.length:Nat):Int) < 0
   · rw [bl (by omega)]
     simp [ah,am,ax,ac,af,ja,tx,num,ae,ao,w0,w1,k0,k1]
   · simp [ah,am,ax,ac,af,ja,tx,num,ae,ao,w0,w1,k0,k1]
     refine ab rfl rfl (.inl rfl) (Xm x.ids (left - (x.group.length:Nat) - (x.url.length:Nat)) (by omega) (by omega) b2) ?_
     by_cases k2:(left - (x.group.length:Nat) - (x.url.length:Nat)) - ((x.ids.length:Nat):Int) < 0
     · first | rw [bl (by omega),bl (by omega)] | rw [bl (by omega)]
       simp [ja,tx,num,ae,ao]
     · rw [j9 (show ¬ (left - (x.group.length:Nat) - (x.url.length:Nat)) - ((x.ids.length:Nat):Int) < 0 by omega)]
       simp [ja,tx,num,ae,ao,k0,k1,k2]
       have w3:IntKind.i64.wrap ((left - (x.group.length:Nat) - (x.url.length:Nat) - (x.ids.length:Nat)) - ((x.body.length:Nat):Int))=(left - (x.group.length:Nat) - (x.url.length:Nat) - (x.ids.length:Nat)) - ((x.body.length:Nat):Int):=wrap_i64 (by omega) (by omega)
       by_cases k3:(left - (x.group.length:Nat) - (x.url.length:Nat) - (x.ids.length:Nat)) - ((x.body.length:Nat):Int) < 0
       · rw [bl (by omega)]
         simp [ja,tx,num,ae,ao,w0,w1,w3,k0,k1,k2,k3]
       · rw [j9 (by omega)]
         simp [ja,tx,num,ae,ao,w0,w1,w3,k0,k1,k2,k3]
         try omega
theorem Xn (x:LWire) (hx:ph 1048576 x):ag Tryz.prog 90 [.val (ja x),.val (ja x)] (.ret (.val (.bool true)) []) []:=by
 refine aj mixed ok90 rfl (fun _=>rfl) ?_
 unfold ir90
 rw [aa]
 unfold ph at hx
 obtain ⟨b0,b1,b2,b3⟩:=hx
 simp [ah,am,ax,ac,af,ja,tx,num,ao]
 refine ab rfl rfl (.inl rfl) (Od x.ids b2) ?_
 simp [ja,tx,num,ao]
theorem Uj (l:List LWire) (left:Int) (h0:0≤left) (h1:left≤1048576) (hx:bdS 9223372036854775807 (ph 9223372036854775807) l):ag Tryz.prog 34 [.val (.list 7 (l.map ja)),.val (num left)] (.ret (.val (num (cut left (zS pp l)))) []) []:=by
 refine aj mixed ok34 rfl (fun _=>rfl) ?_
 unfold ir34
 rw [aa]
 have hl:l.length≤9223372036854775807:=hx.1
 have hw:IntKind.i64.wrap (left - (l.length:Int))=left - l.length:=wrap_i64 (by omega) (by omega)
 have hzs:zS pp l=l.length+io pp l:=rfl
 by_cases h:left - (l.length:Int) < 0
 · rw [bl (by omega)]
   simp [ah,am,ax,ac,af,num,hw,h]
 · simp [ah,am,ax,ac,af,num,hw,h]
   refine ay (X:=Nat) (fun i=>⟨co [(0,.val (.list 7 (l.map ja))),(1,.val (num (left - l.length - (io pp (l.take i):Nat)))),(5,.val (num i))],cu []⟩) (fun i=>i≤l.length∧0≤left - l.length - (io pp (l.take i):Nat)) (fun i=>l.length - i) 0 (Le.mk _ _ ?_ ?_) ?_ ?_
   · simp [upd,num,io,PV.kill]
   · simp
   · simp [io];omega
   · rintro i ⟨hi,hg⟩
     simp [num]
     refine ak (fun h2=>?_) (fun h2=>?_)
     · have e1:(l.map ja)[i]?.getD .nilptr=ja l[i]:=by simp [List.getElem?_eq_getElem h2]
       have hsn:io pp (l.take (i+1))=io pp (l.take i)+pp l[i]:=q8 _ h2
       have hle:=u7 (f:=pp) l (i+1)
       simp [num,h2,e1,ja,tx]
       refine ab rfl rfl (.inl rfl) (Xi l[i] (left - l.length - (io pp (l.take i):Nat)) (by omega) (by omega) (hx.2 _ (List.getElem_mem h2))) ?_
       by_cases h3:left - (l.length:Int) - (io pp (l.take i):Int) - (pp l[i]:Int) < 0
       · have c1:cut (left - l.length - (io pp (l.take i):Nat)) (pp l[i])=-1:=bl (by omega)
         have c2:cut left (zS pp l)=-1:=bl (by omega)
         rw [c1,c2]
         simp [num]
       · have c1:cut (left - l.length - (io pp (l.take i):Nat)) (pp l[i])=left - l.length - (io pp (l.take i):Nat) - (pp l[i]:Nat):=j9 (by omega)
         rw [c1]
         simp [num,h3]
         refine LoopNext.mk (i+1) ⟨by omega,by omega⟩ (by omega) (Le.mk _ _ ?_ ?_)
         · simp [num]
           exact ⟨by omega,wrap_i64 (by omega) (by omega)⟩
         · simp
     · have e1:i=l.length:=by omega
       subst e1
       rw [List.take_length] at *
       rw [j9 (by omega)]
       simp [num]
       omega
theorem Uo (l:List LWire) (hx:bdS 1048576 (ph 1048576) l):ag Tryz.prog 45 [.val (.list 7 (l.map ja)),.val (.list 7 (l.map ja))] (.ret (.val (.bool true)) []) []:=by
 refine aj mixed ok45 rfl (fun _=>rfl) ?_
 unfold ir45
 rw [aa]
 have hl:l.length≤1048576:=hx.1
 simp [ah,am,ax,ac,af,num]
 refine ay (X:=Nat) (fun i=>⟨co [(0,.val (.list 7 (l.map ja))),(1,.val (.list 7 (l.map ja))),(5,.val (num i))],cu []⟩) (fun i=>i≤l.length) (fun i=>l.length - i) 0 (Le.mk _ _ ?_ ?_) ?_ ?_
 · simp [upd,num,PV.kill]
 · simp
 · simp
 · intro i hi
   simp [num]
   refine ak (fun h1=>?_) (fun h1=>?_)
   · have e1:(l.map ja)[i]?.getD .nilptr=ja l[i]:=by simp [List.getElem?_eq_getElem h1]
     simp [num,h1,e1,ja,tx]
     refine ab rfl rfl (.inl rfl) (Xn l[i] (hx.2 _ (List.getElem_mem h1))) ?_
     simp
     refine LoopNext.mk (i+1) (by omega) (by omega) (Le.mk _ _ ?_ ?_)
     · simp [num];exact wrap_i64 (by omega) (by omega)
     · simp
   · simp
theorem Xk (x:LPipe) (left:Int) (h0:0≤left) (h1:left≤1048576) (hx:pi 9223372036854775807 x):ag Tryz.prog 9 [.val (ik x),.val (num left)] (.ret (.val (num (cut left (Ga x)))) []) []:=by
 refine aj mixed ok9 rfl (fun _=>rfl) ?_
 unfold ir9
 rw [aa]
 unfold pi at hx
 obtain ⟨b0,b1,b2,b3⟩:=hx
 unfold Ga
 simp [ah,am,ax,ac,af,dn,ik,tx,num,ae,ao]
 refine ab rfl rfl (.inl rfl) (Lq x.channels left (by omega) (by omega) b0) ?_
 by_cases k0:left - ((zS kc x.channels:Nat):Int) < 0
 · first | rw [bl (by omega),bl (by omega)] | rw [bl (by omega)]
   simp [dn,ik,tx,num,ae,ao]
 · rw [j9 (show ¬ left - ((zS kc x.channels:Nat):Int) < 0 by omega)]
   simp [dn,ik,tx,num,ae,ao,k0]
   refine ab rfl rfl (.inl rfl) (Ra x.policy (left - (zS kc x.channels:Nat)) (by omega) (by omega) b1) ?_
   by_cases k1:(left - (zS kc x.channels:Nat)) - ((sa x.policy:Nat):Int) < 0
   · first | rw [bl (by omega),bl (by omega)] | rw [bl (by omega)]
     simp [dn,ik,tx,num,ae,ao]
   · rw [j9 (show ¬ (left - (zS kc x.channels:Nat)) - ((sa x.policy:Nat):Int) < 0 by omega)]
     simp [dn,ik,tx,num,ae,ao,k0,k1]
     refine ab rfl rfl (.inl rfl) (Rb x.log (left - (zS kc x.channels:Nat) - (sa x.policy:Nat)) (by omega) (by omega) b2) ?_
     by_cases k2:(left - (zS kc x.channels:Nat) - (sa x.policy:Nat)) - ((x.log.length:Nat):Int) < 0
     · first | rw [bl (by omega),bl (by omega)] | rw [bl (by omega)]
       simp [dn,ik,tx,num,ae,ao]
     · rw [j9 (show ¬ (left - (zS kc x.channels:Nat) - (sa x.policy:Nat)) - ((x.log.length:Nat):Int) < 0 by omega)]
       simp [dn,ik,tx,num,ae,ao,k0,k1,k2]
       refine ab rfl rfl (.inl rfl) (Uj x.wires (left - (zS kc x.channels:Nat) - (sa x.policy:Nat) - (x.log.length:Nat)) (by omega) (by omega) b3) ?_
       by_cases k3:(left - (zS kc x.channels:Nat) - (sa x.policy:Nat) - (x.log.length:Nat)) - ((zS pp x.wires:Nat):Int) < 0
       · first | rw [bl (by omega),bl (by omega)] | rw [bl (by omega)]
         simp [dn,ik,tx,num,ae,ao]
       · first | rw [j9 (by omega),j9 (by omega)] | rw [j9 (by omega)]
         simp [dn,ik,tx,num,ae,ao,k0,k1,k2,k3]
         try omega
theorem Xp (x:LPipe) (hx:pi 1048576 x):ag Tryz.prog 13 [.val (ik x),.val (ik x)] (.ret (.val (.bool true)) []) []:=by
 refine aj mixed ok13 rfl (fun _=>rfl) ?_
 unfold ir13
 rw [aa]
 unfold pi at hx
 obtain ⟨b0,b1,b2,b3⟩:=hx
 simp [ah,am,ax,ac,af,dn,ik,tx,num,ao]
 refine ab rfl rfl (.inl rfl) (Lr x.channels b0) ?_
 simp [dn,ik,tx,num,ao]
 refine ab rfl rfl (.inl rfl) (Rd x.policy b1) ?_
 simp [dn,ik,tx,num,ao]
 refine ab rfl rfl (.inl rfl) (Re x.log b2) ?_
 simp [dn,ik,tx,num,ao]
 refine ab rfl rfl (.inl rfl) (Uo x.wires b3) ?_
 simp [dn,ik,tx,num,ao]
end Go.Proofs
end
