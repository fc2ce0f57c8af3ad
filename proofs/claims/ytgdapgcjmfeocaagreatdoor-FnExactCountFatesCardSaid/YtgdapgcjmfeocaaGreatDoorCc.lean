/- Cc: merged out of KSl, KSp, KSt, KSu, KSx. -/
import Derived.Test.YtgdapgcjmfeocaaGreatDoorCa
import Derived.Test.YtgdapgcjmfeocaaGreatDoorAc
import Derived.Test.YtgdapgcjmfeocaaGreatDoorBa
import Derived.Test.YtgdapgcjmfeocaaGreatDoorCb
set_option linter.unusedSectionVars false
set_option linter.unusedSimpArgs false
set_option linter.unusedVariables false
set_option maxRecDepth 100000
section
namespace Go.Proofs
open Go.PW Go.KP
attribute [local simp] RV.cells RV.one PV.cells PV.solid PV.one G3 i7 L8 L5 RV.ofCells elems PV.killL
variable [GF]
theorem a79 (l:List Tx) (left:Int) (h0:0≤left) (h1:left≤1048576) (hx:bdS 9223372036854775807 (fun t=>t.length≤9223372036854775807) l):d8 Tryz.prog 68 [.val (.list 1 (l.map tx)),.val (num left)] (.ret (.val (num (cut left (zS List.length l)))) []) []:=by
 refine f6 mixed ok68 rfl (fun _=>rfl) ?_
 unfold ir68
 rw [b6]
 have hl:l.length≤9223372036854775807:=hx.1
 have hw:IntKind.i64.wrap (left - (l.length:Int))=left - l.length:=wrap_i64 (by omega) (by omega)
 have hzs:zS List.length l=l.length+G4 List.length l:=rfl
 by_cases h:left - (l.length:Int) < 0
 · rw [l6 (by omega)]
   simp [d9,i6,j9,b8,d7,num,hw,h]
 · simp [d9,i6,j9,b8,d7,num,hw,h]
   refine j8 (X:=Nat) (fun i=>⟨t6 [(0,.val (.list 1 (l.map tx))),(1,.val (num (left - l.length - (G4 List.length (l.take i):Nat)))),(5,.val (num i))],t8 []⟩) (fun i=>i≤l.length∧0≤left - l.length - (G4 List.length (l.take i):Nat)) (fun i=>l.length - i) 0 (Le.mk _ _ ?_ ?_) ?_ ?_
   · simp [upd,num,G4,PV.kill]
   · simp
   · simp [G4];omega
   · rintro i ⟨hi,hg⟩
     simp [num]
     refine f8 (fun h2=>?_) (fun h2=>?_)
     · have e1:(l.map tx)[i]?.getD .nilptr=tx l[i]:=by simp [List.getElem?_eq_getElem h2]
       have hsn:G4 List.length (l.take (i+1))=G4 List.length (l.take i)+List.length l[i]:=a08 _ h2
       have hle:=a31 (f:=List.length) l (i+1)
       have hxi:l[i].length≤9223372036854775807:=hx.2 _ (List.getElem_mem h2)
       have hw2:IntKind.i64.wrap (left - (l.length:Int) - (G4 List.length (l.take i):Int) - (l[i].length:Int))=left - (l.length:Int) - (G4 List.length (l.take i):Int) - (l[i].length:Int):=wrap_i64 (by omega) (by omega)
       by_cases h3:left - (l.length:Int) - (G4 List.length (l.take i):Int) - (l[i].length:Int) < 0
       · rw [l6 (by omega)]
         simp [num,h2,e1,tx,b9,hw2,h3]
       · simp [num,h2,e1,tx,b9,hw2,h3]
         refine LoopNext.mk (i+1) ⟨by omega,by omega⟩ (by omega) (Le.mk _ _ ?_ ?_)
         · simp [num]
           exact ⟨by omega,wrap_i64 (by omega) (by omega)⟩
         · simp
     · have e1:i=l.length:=by omega
       subst e1
       rw [List.take_length] at *
       rw [K9 (by omega)]
       simp [num]
       omega
theorem a8a (l:List Tx) (hx:bdS 1048576 (fun t=>t.length≤1048576) l):d8 Tryz.prog 88 [.val (.list 1 (l.map tx)),.val (.list 1 (l.map tx))] (.ret (.val (.bool true)) []) []:=by
 refine f6 mixed ok88 rfl (fun _=>rfl) ?_
 unfold ir88
 rw [b6]
 have hl:l.length≤1048576:=hx.1
 simp [d9,i6,j9,b8,d7,num]
 refine j8 (X:=Nat) (fun i=>⟨t6 [(0,.val (.list 1 (l.map tx))),(1,.val (.list 1 (l.map tx))),(5,.val (num i))],t8 []⟩) (fun i=>i≤l.length) (fun i=>l.length - i) 0 (Le.mk _ _ ?_ ?_) ?_ ?_
 · simp [upd,num,PV.kill]
 · simp
 · simp
 · intro i hi
   simp [num]
   refine f8 (fun h1=>?_) (fun h1=>?_)
   · have e1:(l.map tx)[i]?.getD .nilptr=tx l[i]:=by simp [List.getElem?_eq_getElem h1]
     simp [num,h1,e1,tx]
     refine LoopNext.mk (i+1) (by omega) (by omega) (Le.mk _ _ ?_ ?_)
     · simp [num];exact wrap_i64 (by omega) (by omega)
     · simp
   · simp
theorem d05 (x:LRule) (left:Int) (h0:0≤left) (h1:left≤1048576) (hx:X6 9223372036854775807 x):d8 Tryz.prog 105 [.val (l5 x),.val (num left)] (.ret (.val (num (cut left (Z8 x)))) []) []:=by
 refine f6 mixed ok105 rfl (fun _=>rfl) ?_
 unfold ir105
 rw [b6]
 unfold X6 at hx
 obtain ⟨b0,b1⟩:=hx
 unfold Z8
 have w0:IntKind.i64.wrap (left - ((x.name.length:Nat):Int))=left - ((x.name.length:Nat):Int):=wrap_i64 (by omega) (by omega)
 by_cases k0:left - ((x.name.length:Nat):Int) < 0
 · rw [l6 (by omega)]
   simp [d9,i6,j9,b8,d7,l5,tx,num,b9,i7,w0,k0]
 · simp [d9,i6,j9,b8,d7,l5,tx,num,b9,i7,w0,k0]
   refine b7 rfl rfl (.inl rfl) (a79 x.words (left - (x.name.length:Nat)) (by omega) (by omega) b1) ?_
   by_cases k1:(left - (x.name.length:Nat)) - ((zS List.length x.words:Nat):Int) < 0
   · first | rw [l6 (by omega),l6 (by omega)] | rw [l6 (by omega)]
     simp [l5,tx,num,b9,i7]
   · first | rw [K9 (by omega),K9 (by omega)] | rw [K9 (by omega)]
     simp [l5,tx,num,b9,i7,k0,k1]
     try omega
theorem d1a (x:LRule) (hx:X6 1048576 x):d8 Tryz.prog 141 [.val (l5 x),.val (l5 x)] (.ret (.val (.bool true)) []) []:=by
 refine f6 mixed ok141 rfl (fun _=>rfl) ?_
 unfold ir141
 rw [b6]
 unfold X6 at hx
 obtain ⟨b0,b1⟩:=hx
 simp [d9,i6,j9,b8,d7,l5,tx,num,i7]
 refine b7 rfl rfl (.inl rfl) (a8a x.words b1) ?_
 simp [l5,tx,num,i7]
theorem c79 (l:List LRule) (left:Int) (h0:0≤left) (h1:left≤1048576) (hx:bdS 9223372036854775807 (X6 9223372036854775807) l):d8 Tryz.prog 69 [.val (.list 2 (l.map l5)),.val (num left)] (.ret (.val (num (cut left (zS Z8 l)))) []) []:=by
 refine f6 mixed ok69 rfl (fun _=>rfl) ?_
 unfold ir69
 rw [b6]
 have hl:l.length≤9223372036854775807:=hx.1
 have hw:IntKind.i64.wrap (left - (l.length:Int))=left - l.length:=wrap_i64 (by omega) (by omega)
 have hzs:zS Z8 l=l.length+G4 Z8 l:=rfl
 by_cases h:left - (l.length:Int) < 0
 · rw [l6 (by omega)]
   simp [d9,i6,j9,b8,d7,num,hw,h]
 · simp [d9,i6,j9,b8,d7,num,hw,h]
   refine j8 (X:=Nat) (fun i=>⟨t6 [(0,.val (.list 2 (l.map l5))),(1,.val (num (left - l.length - (G4 Z8 (l.take i):Nat)))),(5,.val (num i))],t8 []⟩) (fun i=>i≤l.length∧0≤left - l.length - (G4 Z8 (l.take i):Nat)) (fun i=>l.length - i) 0 (Le.mk _ _ ?_ ?_) ?_ ?_
   · simp [upd,num,G4,PV.kill]
   · simp
   · simp [G4];omega
   · rintro i ⟨hi,hg⟩
     simp [num]
     refine f8 (fun h2=>?_) (fun h2=>?_)
     · have e1:(l.map l5)[i]?.getD .nilptr=l5 l[i]:=by simp [List.getElem?_eq_getElem h2]
       have hsn:G4 Z8 (l.take (i+1))=G4 Z8 (l.take i)+Z8 l[i]:=a08 _ h2
       have hle:=a31 (f:=Z8) l (i+1)
       simp [num,h2,e1,l5,tx]
       refine b7 rfl rfl (.inl rfl) (d05 l[i] (left - l.length - (G4 Z8 (l.take i):Nat)) (by omega) (by omega) (hx.2 _ (List.getElem_mem h2))) ?_
       by_cases h3:left - (l.length:Int) - (G4 Z8 (l.take i):Int) - (Z8 l[i]:Int) < 0
       · have c1:cut (left - l.length - (G4 Z8 (l.take i):Nat)) (Z8 l[i])=-1:=l6 (by omega)
         have c2:cut left (zS Z8 l)=-1:=l6 (by omega)
         rw [c1,c2]
         simp [num]
       · have c1:cut (left - l.length - (G4 Z8 (l.take i):Nat)) (Z8 l[i])=left - l.length - (G4 Z8 (l.take i):Nat) - (Z8 l[i]:Nat):=K9 (by omega)
         rw [c1]
         simp [num,h3]
         refine LoopNext.mk (i+1) ⟨by omega,by omega⟩ (by omega) (Le.mk _ _ ?_ ?_)
         · simp [num]
           exact ⟨by omega,wrap_i64 (by omega) (by omega)⟩
         · simp
     · have e1:i=l.length:=by omega
       subst e1
       rw [List.take_length] at *
       rw [K9 (by omega)]
       simp [num]
       omega
theorem c8e (l:List LRule) (hx:bdS 1048576 (X6 1048576) l):d8 Tryz.prog 89 [.val (.list 2 (l.map l5)),.val (.list 2 (l.map l5))] (.ret (.val (.bool true)) []) []:=by
 refine f6 mixed ok89 rfl (fun _=>rfl) ?_
 unfold ir89
 rw [b6]
 have hl:l.length≤1048576:=hx.1
 simp [d9,i6,j9,b8,d7,num]
 refine j8 (X:=Nat) (fun i=>⟨t6 [(0,.val (.list 2 (l.map l5))),(1,.val (.list 2 (l.map l5))),(5,.val (num i))],t8 []⟩) (fun i=>i≤l.length) (fun i=>l.length - i) 0 (Le.mk _ _ ?_ ?_) ?_ ?_
 · simp [upd,num,PV.kill]
 · simp
 · simp
 · intro i hi
   simp [num]
   refine f8 (fun h1=>?_) (fun h1=>?_)
   · have e1:(l.map l5)[i]?.getD .nilptr=l5 l[i]:=by simp [List.getElem?_eq_getElem h1]
     simp [num,h1,e1,l5,tx]
     refine b7 rfl rfl (.inl rfl) (d1a l[i] (hx.2 _ (List.getElem_mem h1))) ?_
     simp
     refine LoopNext.mk (i+1) (by omega) (by omega) (Le.mk _ _ ?_ ?_)
     · simp [num];exact wrap_i64 (by omega) (by omega)
     · simp
   · simp
theorem c4y (x:LPolicy) (left:Int) (h0:0≤left) (h1:left≤1048576) (hx:a0g 9223372036854775807 x):d8 Tryz.prog 32 [.val (w8 x),.val (num left)] (.ret (.val (num (cut left (a1t x)))) []) []:=by
 refine f6 mixed ok32 rfl (fun _=>rfl) ?_
 unfold ir32
 rw [b6]
 unfold a0g at hx
 obtain ⟨b0,b1,b2⟩:=hx
 unfold a1t
 have w0:IntKind.i64.wrap (left - ((x.reportTo.length:Nat):Int))=left - ((x.reportTo.length:Nat):Int):=wrap_i64 (by omega) (by omega)
 by_cases k0:left - ((x.reportTo.length:Nat):Int) < 0
 · rw [l6 (by omega)]
   simp [d9,i6,j9,b8,d7,w8,tx,num,b9,i7,w0,k0]
 · simp [d9,i6,j9,b8,d7,w8,tx,num,b9,i7,w0,k0]
   refine b7 rfl rfl (.inl rfl) (a79 x.uris (left - (x.reportTo.length:Nat)) (by omega) (by omega) b1) ?_
   by_cases k1:(left - (x.reportTo.length:Nat)) - ((zS List.length x.uris:Nat):Int) < 0
   · first | rw [l6 (by omega),l6 (by omega)] | rw [l6 (by omega)]
     simp [w8,tx,num,b9,i7]
   · rw [K9 (show ¬ (left - (x.reportTo.length:Nat)) - ((zS List.length x.uris:Nat):Int) < 0 by omega)]
     simp [w8,tx,num,b9,i7,k0,k1]
     refine b7 rfl rfl (.inl rfl) (c79 x.rules (left - (x.reportTo.length:Nat) - (zS List.length x.uris:Nat)) (by omega) (by omega) b2) ?_
     by_cases k2:(left - (x.reportTo.length:Nat) - (zS List.length x.uris:Nat)) - ((zS Z8 x.rules:Nat):Int) < 0
     · first | rw [l6 (by omega),l6 (by omega)] | rw [l6 (by omega)]
       simp [w8,tx,num,b9,i7]
     · first | rw [K9 (by omega),K9 (by omega)] | rw [K9 (by omega)]
       simp [w8,tx,num,b9,i7,k0,k1,k2]
       try omega
theorem c41 (x:LPolicy) (hx:a0g 1048576 x):d8 Tryz.prog 44 [.val (w8 x),.val (w8 x)] (.ret (.val (.bool true)) []) []:=by
 refine f6 mixed ok44 rfl (fun _=>rfl) ?_
 unfold ir44
 rw [b6]
 unfold a0g at hx
 obtain ⟨b0,b1,b2⟩:=hx
 simp [d9,i6,j9,b8,d7,w8,tx,num,i7]
 refine b7 rfl rfl (.inl rfl) (a8a x.uris b1) ?_
 simp [w8,tx,num,i7]
 refine b7 rfl rfl (.inl rfl) (c8e x.rules b2) ?_
 simp [w8,tx,num,i7]
end Go.Proofs
end
section
namespace Go.Proofs
open Go.PW Go.KP
attribute [local simp] RV.cells RV.one PV.cells PV.solid PV.one G3 i7 L8 L5 RV.ofCells elems PV.killL
variable [GF]
theorem b5k (x:LTarget) (left:Int) (h0:0≤left) (h1:left≤1048576) (hx:U5 9223372036854775807 x):d8 Tryz.prog 189 [.val (f9 x),.val (num left)] (.ret (.val (num (cut left (S2 x)))) []) []:=by
 refine f6 mixed ok189 rfl (fun _=>rfl) ?_
 unfold ir189
 rw [b6]
 unfold U5 at hx
 have b0:=hx
 unfold S2
 have w0:IntKind.i64.wrap (left - ((x.url.length:Nat):Int))=left - ((x.url.length:Nat):Int):=wrap_i64 (by omega) (by omega)
 by_cases k0:left - ((x.url.length:Nat):Int) < 0
 · rw [l6 (by omega)]
   simp [d9,i6,j9,b8,d7,f9,tx,num,b9,i7,w0,k0]
 · rw [K9 (by omega)]
   simp [d9,i6,j9,b8,d7,f9,tx,num,b9,i7,w0,k0]
   try omega
theorem b5i (x:LTarget) (hx:U5 1048576 x):d8 Tryz.prog 194 [.val (f9 x)] (.ret (.val (f9 x)) []) []:=by
 refine f6 mixed ok194 rfl (fun _=>rfl) ?_
 unfold ir194
 rw [b6]
 unfold U5 at hx
 have b0:=hx
 simp [d9,i6,j9,b8,d7,f9,tx,num,i7]
 refine (b8h (id:=2) (n:=3) (rs:=[tx x.url,num x.prio,num x.weight]) ?_ ?_ rfl (by omega)).trans ?_
 · simp
 · simp [tx,num]
 · simp [f9,tx,num,i7]
theorem b5l (x:LTarget) (hx:U5 1048576 x):d8 Tryz.prog 207 [.val (f9 x),.val (f9 x)] (.ret (.val (.bool true)) []) []:=by
 refine f6 mixed ok207 rfl (fun _=>rfl) ?_
 unfold ir207
 rw [b6]
 unfold U5 at hx
 have b0:=hx
 simp [d9,i6,j9,b8,d7,f9,tx,num,i7]
theorem c1t (l:List LTarget) (left:Int) (h0:0≤left) (h1:left≤1048576) (hx:bdS 9223372036854775807 (U5 9223372036854775807) l):d8 Tryz.prog 144 [.val (.list 3 (l.map f9)),.val (num left)] (.ret (.val (num (cut left (zS S2 l)))) []) []:=by
 refine f6 mixed ok144 rfl (fun _=>rfl) ?_
 unfold ir144
 rw [b6]
 have hl:l.length≤9223372036854775807:=hx.1
 have hw:IntKind.i64.wrap (left - (l.length:Int))=left - l.length:=wrap_i64 (by omega) (by omega)
 have hzs:zS S2 l=l.length+G4 S2 l:=rfl
 by_cases h:left - (l.length:Int) < 0
 · rw [l6 (by omega)]
   simp [d9,i6,j9,b8,d7,num,hw,h]
 · simp [d9,i6,j9,b8,d7,num,hw,h]
   refine j8 (X:=Nat) (fun i=>⟨t6 [(0,.val (.list 3 (l.map f9))),(1,.val (num (left - l.length - (G4 S2 (l.take i):Nat)))),(5,.val (num i))],t8 []⟩) (fun i=>i≤l.length∧0≤left - l.length - (G4 S2 (l.take i):Nat)) (fun i=>l.length - i) 0 (Le.mk _ _ ?_ ?_) ?_ ?_
   · simp [upd,num,G4,PV.kill]
   · simp
   · simp [G4];omega
   · rintro i ⟨hi,hg⟩
     simp [num]
     refine f8 (fun h2=>?_) (fun h2=>?_)
     · have e1:(l.map f9)[i]?.getD .nilptr=f9 l[i]:=by simp [List.getElem?_eq_getElem h2]
       have hsn:G4 S2 (l.take (i+1))=G4 S2 (l.take i)+S2 l[i]:=a08 _ h2
       have hle:=a31 (f:=S2) l (i+1)
       simp [num,h2,e1,f9,tx]
       refine b7 rfl rfl (.inl rfl) (b5k l[i] (left - l.length - (G4 S2 (l.take i):Nat)) (by omega) (by omega) (hx.2 _ (List.getElem_mem h2))) ?_
       by_cases h3:left - (l.length:Int) - (G4 S2 (l.take i):Int) - (S2 l[i]:Int) < 0
       · have c1:cut (left - l.length - (G4 S2 (l.take i):Nat)) (S2 l[i])=-1:=l6 (by omega)
         have c2:cut left (zS S2 l)=-1:=l6 (by omega)
         rw [c1,c2]
         simp [num]
       · have c1:cut (left - l.length - (G4 S2 (l.take i):Nat)) (S2 l[i])=left - l.length - (G4 S2 (l.take i):Nat) - (S2 l[i]:Nat):=K9 (by omega)
         rw [c1]
         simp [num,h3]
         refine LoopNext.mk (i+1) ⟨by omega,by omega⟩ (by omega) (Le.mk _ _ ?_ ?_)
         · simp [num]
           exact ⟨by omega,wrap_i64 (by omega) (by omega)⟩
         · simp
     · have e1:i=l.length:=by omega
       subst e1
       rw [List.take_length] at *
       rw [K9 (by omega)]
       simp [num]
       omega
theorem c1w (l:List LTarget) (hx:bdS 1048576 (U5 1048576) l):d8 Tryz.prog 175 [.val (.list 3 (l.map f9)),.val (.list 3 (l.map f9))] (.ret (.val (.bool true)) []) []:=by
 refine f6 mixed ok175 rfl (fun _=>rfl) ?_
 unfold ir175
 rw [b6]
 have hl:l.length≤1048576:=hx.1
 simp [d9,i6,j9,b8,d7,num]
 refine j8 (X:=Nat) (fun i=>⟨t6 [(0,.val (.list 3 (l.map f9))),(1,.val (.list 3 (l.map f9))),(5,.val (num i))],t8 []⟩) (fun i=>i≤l.length) (fun i=>l.length - i) 0 (Le.mk _ _ ?_ ?_) ?_ ?_
 · simp [upd,num,PV.kill]
 · simp
 · simp
 · intro i hi
   simp [num]
   refine f8 (fun h1=>?_) (fun h1=>?_)
   · have e1:(l.map f9)[i]?.getD .nilptr=f9 l[i]:=by simp [List.getElem?_eq_getElem h1]
     simp [num,h1,e1,f9,tx]
     refine b7 rfl rfl (.inl rfl) (b5l l[i] (hx.2 _ (List.getElem_mem h1))) ?_
     simp
     refine LoopNext.mk (i+1) (by omega) (by omega) (Le.mk _ _ ?_ ?_)
     · simp [num];exact wrap_i64 (by omega) (by omega)
     · simp
   · simp
theorem c8c (x:LGroup) (left:Int) (h0:0≤left) (h1:left≤1048576) (hx:a10 9223372036854775807 x):d8 Tryz.prog 102 [.val (L9 x),.val (num left)] (.ret (.val (num (cut left (a3n x)))) []) []:=by
 refine f6 mixed ok102 rfl (fun _=>rfl) ?_
 unfold ir102
 rw [b6]
 unfold a10 at hx
 obtain ⟨b0,b1⟩:=hx
 unfold a3n
 have w0:IntKind.i64.wrap (left - ((x.name.length:Nat):Int))=left - ((x.name.length:Nat):Int):=wrap_i64 (by omega) (by omega)
 by_cases k0:left - ((x.name.length:Nat):Int) < 0
 · rw [l6 (by omega)]
   simp [d9,i6,j9,b8,d7,L9,tx,num,b9,i7,w0,k0]
 · simp [d9,i6,j9,b8,d7,L9,tx,num,b9,i7,w0,k0]
   refine b7 rfl rfl (.inl rfl) (c1t x.targets (left - (x.name.length:Nat)) (by omega) (by omega) b1) ?_
   by_cases k1:(left - (x.name.length:Nat)) - ((zS S2 x.targets:Nat):Int) < 0
   · first | rw [l6 (by omega),l6 (by omega)] | rw [l6 (by omega)]
     simp [L9,tx,num,b9,i7]
   · first | rw [K9 (by omega),K9 (by omega)] | rw [K9 (by omega)]
     simp [L9,tx,num,b9,i7,k0,k1]
     try omega
theorem c8h (x:LGroup) (hx:a10 1048576 x):d8 Tryz.prog 138 [.val (L9 x),.val (L9 x)] (.ret (.val (.bool true)) []) []:=by
 refine f6 mixed ok138 rfl (fun _=>rfl) ?_
 unfold ir138
 rw [b6]
 unfold a10 at hx
 obtain ⟨b0,b1⟩:=hx
 simp [d9,i6,j9,b8,d7,L9,tx,num,i7]
 refine b7 rfl rfl (.inl rfl) (c1w x.targets b1) ?_
 simp [L9,tx,num,i7]
end Go.Proofs
end
section
namespace Go.Proofs
open Go.PW Go.KP
attribute [local simp] RV.cells RV.one PV.cells PV.solid PV.one G3 i7 L8 L5 RV.ofCells elems PV.killL
variable [GF]
theorem d08 (l:List Int) (left:Int) (h0:0≤left) (h1:left≤1048576) (hl:l.length≤9223372036854775807):d8 Tryz.prog 106 [.val (.list 1 (l.map num)),.val (num left)] (.ret (.val (num (cut left l.length))) []) []:=by
 refine f6 mixed ok106 rfl (fun _=>rfl) ?_
 unfold ir106
 rw [b6]
 have hw:IntKind.i64.wrap (left - (l.length:Int))=left - l.length:=wrap_i64 (by omega) (by omega)
 by_cases h:left - (l.length:Int) < 0
 · rw [l6 (by omega)]
   simp [d9,i6,j9,b8,d7,num,hw,h]
 · rw [K9 (by omega)]
   simp [d9,i6,j9,b8,d7,num,hw,h]
theorem c1y (l:List Int) (hx:l.length≤1048576):d8 Tryz.prog 24 [.val (.list 1 (l.map num)),.val (.list 1 (l.map num))] (.ret (.val (.bool true)) []) []:=by
 refine f6 mixed ok24 rfl (fun _=>rfl) ?_
 unfold ir24
 rw [b6]
 have hl:l.length≤1048576:=hx
 simp [d9,i6,j9,b8,d7,num]
 refine j8 (X:=Nat) (fun i=>⟨t6 [(0,.val (.list 1 (l.map num))),(1,.val (.list 1 (l.map num))),(5,.val (num i))],t8 []⟩) (fun i=>i≤l.length) (fun i=>l.length - i) 0 (Le.mk _ _ ?_ ?_) ?_ ?_
 · simp [upd,num,PV.kill]
 · simp
 · simp
 · intro i hi
   simp [num]
   refine f8 (fun h1=>?_) (fun h1=>?_)
   · have e1:(l.map num)[i]?.getD .nilptr=num l[i]:=by simp [List.getElem?_eq_getElem h1]
     simp [num,h1,e1,tx]
     refine LoopNext.mk (i+1) (by omega) (by omega) (Le.mk _ _ ?_ ?_)
     · simp [num];exact wrap_i64 (by omega) (by omega)
     · simp
   · simp
theorem c4x (x:LReport) (left:Int) (h0:0≤left) (h1:left≤1048576) (hx:X3 9223372036854775807 x):d8 Tryz.prog 190 [.val (j4 x),.val (num left)] (.ret (.val (num (cut left (R5 x)))) []) []:=by
 refine f6 mixed ok190 rfl (fun _=>rfl) ?_
 unfold ir190
 rw [b6]
 unfold X3 at hx
 have b0:=hx
 unfold R5
 have w0:IntKind.i64.wrap (left - ((x.body.length:Nat):Int))=left - ((x.body.length:Nat):Int):=wrap_i64 (by omega) (by omega)
 by_cases k0:left - ((x.body.length:Nat):Int) < 0
 · rw [l6 (by omega)]
   simp [d9,i6,j9,b8,d7,j4,tx,num,b9,i7,w0,k0]
 · rw [K9 (by omega)]
   simp [d9,i6,j9,b8,d7,j4,tx,num,b9,i7,w0,k0]
   try omega
theorem c4w (x:LReport) (hx:X3 1048576 x):d8 Tryz.prog 195 [.val (j4 x)] (.ret (.val (j4 x)) []) []:=by
 refine f6 mixed ok195 rfl (fun _=>rfl) ?_
 unfold ir195
 rw [b6]
 unfold X3 at hx
 have b0:=hx
 simp [d9,i6,j9,b8,d7,j4,tx,num,i7]
 refine (b8h (id:=2) (n:=4) (rs:=[num x.id,num x.born,num x.tries,tx x.body]) ?_ ?_ rfl (by omega)).trans ?_
 · simp
 · simp [tx,num]
 · simp [j4,tx,num,i7]
theorem c40 (x:LReport) (hx:X3 1048576 x):d8 Tryz.prog 208 [.val (j4 x),.val (j4 x)] (.ret (.val (.bool true)) []) []:=by
 refine f6 mixed ok208 rfl (fun _=>rfl) ?_
 unfold ir208
 rw [b6]
 unfold X3 at hx
 have b0:=hx
 simp [d9,i6,j9,b8,d7,j4,tx,num,i7]
theorem c1u (l:List LReport) (left:Int) (h0:0≤left) (h1:left≤1048576) (hx:bdS 9223372036854775807 (X3 9223372036854775807) l):d8 Tryz.prog 146 [.val (.list 4 (l.map j4)),.val (num left)] (.ret (.val (num (cut left (zS R5 l)))) []) []:=by
 refine f6 mixed ok146 rfl (fun _=>rfl) ?_
 unfold ir146
 rw [b6]
 have hl:l.length≤9223372036854775807:=hx.1
 have hw:IntKind.i64.wrap (left - (l.length:Int))=left - l.length:=wrap_i64 (by omega) (by omega)
 have hzs:zS R5 l=l.length+G4 R5 l:=rfl
 by_cases h:left - (l.length:Int) < 0
 · rw [l6 (by omega)]
   simp [d9,i6,j9,b8,d7,num,hw,h]
 · simp [d9,i6,j9,b8,d7,num,hw,h]
   refine j8 (X:=Nat) (fun i=>⟨t6 [(0,.val (.list 4 (l.map j4))),(1,.val (num (left - l.length - (G4 R5 (l.take i):Nat)))),(5,.val (num i))],t8 []⟩) (fun i=>i≤l.length∧0≤left - l.length - (G4 R5 (l.take i):Nat)) (fun i=>l.length - i) 0 (Le.mk _ _ ?_ ?_) ?_ ?_
   · simp [upd,num,G4,PV.kill]
   · simp
   · simp [G4];omega
   · rintro i ⟨hi,hg⟩
     simp [num]
     refine f8 (fun h2=>?_) (fun h2=>?_)
     · have e1:(l.map j4)[i]?.getD .nilptr=j4 l[i]:=by simp [List.getElem?_eq_getElem h2]
       have hsn:G4 R5 (l.take (i+1))=G4 R5 (l.take i)+R5 l[i]:=a08 _ h2
       have hle:=a31 (f:=R5) l (i+1)
       simp [num,h2,e1,j4,tx]
       refine b7 rfl rfl (.inl rfl) (c4x l[i] (left - l.length - (G4 R5 (l.take i):Nat)) (by omega) (by omega) (hx.2 _ (List.getElem_mem h2))) ?_
       by_cases h3:left - (l.length:Int) - (G4 R5 (l.take i):Int) - (R5 l[i]:Int) < 0
       · have c1:cut (left - l.length - (G4 R5 (l.take i):Nat)) (R5 l[i])=-1:=l6 (by omega)
         have c2:cut left (zS R5 l)=-1:=l6 (by omega)
         rw [c1,c2]
         simp [num]
       · have c1:cut (left - l.length - (G4 R5 (l.take i):Nat)) (R5 l[i])=left - l.length - (G4 R5 (l.take i):Nat) - (R5 l[i]:Nat):=K9 (by omega)
         rw [c1]
         simp [num,h3]
         refine LoopNext.mk (i+1) ⟨by omega,by omega⟩ (by omega) (Le.mk _ _ ?_ ?_)
         · simp [num]
           exact ⟨by omega,wrap_i64 (by omega) (by omega)⟩
         · simp
     · have e1:i=l.length:=by omega
       subst e1
       rw [List.take_length] at *
       rw [K9 (by omega)]
       simp [num]
       omega
theorem c1x (l:List LReport) (hx:bdS 1048576 (X3 1048576) l):d8 Tryz.prog 177 [.val (.list 4 (l.map j4)),.val (.list 4 (l.map j4))] (.ret (.val (.bool true)) []) []:=by
 refine f6 mixed ok177 rfl (fun _=>rfl) ?_
 unfold ir177
 rw [b6]
 have hl:l.length≤1048576:=hx.1
 simp [d9,i6,j9,b8,d7,num]
 refine j8 (X:=Nat) (fun i=>⟨t6 [(0,.val (.list 4 (l.map j4))),(1,.val (.list 4 (l.map j4))),(5,.val (num i))],t8 []⟩) (fun i=>i≤l.length) (fun i=>l.length - i) 0 (Le.mk _ _ ?_ ?_) ?_ ?_
 · simp [upd,num,PV.kill]
 · simp
 · simp
 · intro i hi
   simp [num]
   refine f8 (fun h1=>?_) (fun h1=>?_)
   · have e1:(l.map j4)[i]?.getD .nilptr=j4 l[i]:=by simp [List.getElem?_eq_getElem h1]
     simp [num,h1,e1,j4,tx]
     refine b7 rfl rfl (.inl rfl) (c40 l[i] (hx.2 _ (List.getElem_mem h1))) ?_
     simp
     refine LoopNext.mk (i+1) (by omega) (by omega) (Le.mk _ _ ?_ ?_)
     · simp [num];exact wrap_i64 (by omega) (by omega)
     · simp
   · simp
theorem c8a (x:LQueue) (left:Int) (h0:0≤left) (h1:left≤1048576) (hx:a2m 9223372036854775807 x):d8 Tryz.prog 104 [.val (K8 x),.val (num left)] (.ret (.val (num (cut left (a9v x)))) []) []:=by
 refine f6 mixed ok104 rfl (fun _=>rfl) ?_
 unfold ir104
 rw [b6]
 unfold a2m at hx
 obtain ⟨b0,b1⟩:=hx
 unfold a9v
 simp [d9,i6,j9,b8,d7,K8,tx,num,b9,i7]
 refine b7 rfl rfl (.inl rfl) (c1u x.items left (by omega) (by omega) b0) ?_
 by_cases k0:left - ((zS R5 x.items:Nat):Int) < 0
 · first | rw [l6 (by omega),l6 (by omega)] | rw [l6 (by omega)]
   simp [K8,tx,num,b9,i7]
 · rw [K9 (show ¬ left - ((zS R5 x.items:Nat):Int) < 0 by omega)]
   simp [K8,tx,num,b9,i7,k0]
   refine b7 rfl rfl (.inl rfl) (a79 x.recent (left - (zS R5 x.items:Nat)) (by omega) (by omega) b1) ?_
   by_cases k1:(left - (zS R5 x.items:Nat)) - ((zS List.length x.recent:Nat):Int) < 0
   · first | rw [l6 (by omega),l6 (by omega)] | rw [l6 (by omega)]
     simp [K8,tx,num,b9,i7]
   · first | rw [K9 (by omega),K9 (by omega)] | rw [K9 (by omega)]
     simp [K8,tx,num,b9,i7,k0,k1]
     try omega
theorem c8f (x:LQueue) (hx:a2m 1048576 x):d8 Tryz.prog 140 [.val (K8 x),.val (K8 x)] (.ret (.val (.bool true)) []) []:=by
 refine f6 mixed ok140 rfl (fun _=>rfl) ?_
 unfold ir140
 rw [b6]
 unfold a2m at hx
 obtain ⟨b0,b1⟩:=hx
 simp [d9,i6,j9,b8,d7,K8,tx,num,i7]
 refine b7 rfl rfl (.inl rfl) (c1x x.items b0) ?_
 simp [K8,tx,num,i7]
 refine b7 rfl rfl (.inl rfl) (a8a x.recent b1) ?_
 simp [K8,tx,num,i7]
theorem d07 (x:LPeer) (left:Int) (h0:0≤left) (h1:left≤1048576) (hx:a1b 9223372036854775807 x):d8 Tryz.prog 145 [.val (G0 x),.val (num left)] (.ret (.val (num (cut left (Z0 x)))) []) []:=by
 refine f6 mixed ok145 rfl (fun _=>rfl) ?_
 unfold ir145
 rw [b6]
 unfold a1b at hx
 have b0:=hx
 unfold Z0
 simp [d9,i6,j9,b8,d7,f9,G0,tx,num,b9,i7]
 refine b7 rfl rfl (.inl rfl) (b5k x.target left (by omega) (by omega) b0) ?_
 by_cases k0:left - ((S2 x.target:Nat):Int) < 0
 · first | rw [l6 (by omega),l6 (by omega)] | rw [l6 (by omega)]
   simp [f9,G0,tx,num,b9,i7]
 · first | rw [K9 (by omega),K9 (by omega)] | rw [K9 (by omega)]
   simp [f9,G0,tx,num,b9,i7,k0]
   try omega
theorem d03 (x:LPeer) (hx:a1b 1048576 x):d8 Tryz.prog 156 [.val (G0 x)] (.ret (.val (G0 x)) []) []:=by
 refine f6 mixed ok156 rfl (fun _=>rfl) ?_
 unfold ir156
 rw [b6]
 unfold a1b at hx
 have b0:=hx
 simp [d9,i6,j9,b8,d7,f9,G0,tx,num,i7]
 refine b7 rfl rfl (.inl rfl) (b5i x.target b0) ?_
 simp [f9,G0,tx,num,i7]
 refine (b8h (id:=2) (n:=6) (rs:=[tx x.target.url,num x.target.prio,num x.target.weight,num x.fails,num x.retry,.bool x.gone]) ?_ ?_ rfl (by omega)).trans ?_
 · simp
 · simp [tx,num]
 · simp [f9,G0,tx,num,i7]
theorem d1c (x:LPeer) (hx:a1b 1048576 x):d8 Tryz.prog 176 [.val (G0 x),.val (G0 x)] (.ret (.val (.bool true)) []) []:=by
 refine f6 mixed ok176 rfl (fun _=>rfl) ?_
 unfold ir176
 rw [b6]
 unfold a1b at hx
 have b0:=hx
 simp [d9,i6,j9,b8,d7,f9,G0,tx,num,i7]
 refine b7 rfl rfl (.inl rfl) (b5l x.target b0) ?_
 simp [f9,G0,tx,num,i7]
theorem c8b (l:List LPeer) (left:Int) (h0:0≤left) (h1:left≤1048576) (hx:bdS 9223372036854775807 (a1b 9223372036854775807) l):d8 Tryz.prog 103 [.val (.list 6 (l.map G0)),.val (num left)] (.ret (.val (num (cut left (zS Z0 l)))) []) []:=by
 refine f6 mixed ok103 rfl (fun _=>rfl) ?_
 unfold ir103
 rw [b6]
 have hl:l.length≤9223372036854775807:=hx.1
 have hw:IntKind.i64.wrap (left - (l.length:Int))=left - l.length:=wrap_i64 (by omega) (by omega)
 have hzs:zS Z0 l=l.length+G4 Z0 l:=rfl
 by_cases h:left - (l.length:Int) < 0
 · rw [l6 (by omega)]
   simp [d9,i6,j9,b8,d7,num,hw,h]
 · simp [d9,i6,j9,b8,d7,num,hw,h]
   refine j8 (X:=Nat) (fun i=>⟨t6 [(0,.val (.list 6 (l.map G0))),(1,.val (num (left - l.length - (G4 Z0 (l.take i):Nat)))),(5,.val (num i))],t8 []⟩) (fun i=>i≤l.length∧0≤left - l.length - (G4 Z0 (l.take i):Nat)) (fun i=>l.length - i) 0 (Le.mk _ _ ?_ ?_) ?_ ?_
   · simp [upd,num,G4,PV.kill]
   · simp
   · simp [G4];omega
   · rintro i ⟨hi,hg⟩
     simp [num]
     refine f8 (fun h2=>?_) (fun h2=>?_)
     · have e1:(l.map G0)[i]?.getD .nilptr=G0 l[i]:=by simp [List.getElem?_eq_getElem h2]
       have hsn:G4 Z0 (l.take (i+1))=G4 Z0 (l.take i)+Z0 l[i]:=a08 _ h2
       have hle:=a31 (f:=Z0) l (i+1)
       simp [num,h2,e1,f9,G0,tx]
       refine b7 rfl rfl (.inl rfl) (d07 l[i] (left - l.length - (G4 Z0 (l.take i):Nat)) (by omega) (by omega) (hx.2 _ (List.getElem_mem h2))) ?_
       by_cases h3:left - (l.length:Int) - (G4 Z0 (l.take i):Int) - (Z0 l[i]:Int) < 0
       · have c1:cut (left - l.length - (G4 Z0 (l.take i):Nat)) (Z0 l[i])=-1:=l6 (by omega)
         have c2:cut left (zS Z0 l)=-1:=l6 (by omega)
         rw [c1,c2]
         simp [num]
       · have c1:cut (left - l.length - (G4 Z0 (l.take i):Nat)) (Z0 l[i])=left - l.length - (G4 Z0 (l.take i):Nat) - (Z0 l[i]:Nat):=K9 (by omega)
         rw [c1]
         simp [num,h3]
         refine LoopNext.mk (i+1) ⟨by omega,by omega⟩ (by omega) (Le.mk _ _ ?_ ?_)
         · simp [num]
           exact ⟨by omega,wrap_i64 (by omega) (by omega)⟩
         · simp
     · have e1:i=l.length:=by omega
       subst e1
       rw [List.take_length] at *
       rw [K9 (by omega)]
       simp [num]
       omega
theorem c8g (l:List LPeer) (hx:bdS 1048576 (a1b 1048576) l):d8 Tryz.prog 139 [.val (.list 6 (l.map G0)),.val (.list 6 (l.map G0))] (.ret (.val (.bool true)) []) []:=by
 refine f6 mixed ok139 rfl (fun _=>rfl) ?_
 unfold ir139
 rw [b6]
 have hl:l.length≤1048576:=hx.1
 simp [d9,i6,j9,b8,d7,num]
 refine j8 (X:=Nat) (fun i=>⟨t6 [(0,.val (.list 6 (l.map G0))),(1,.val (.list 6 (l.map G0))),(5,.val (num i))],t8 []⟩) (fun i=>i≤l.length) (fun i=>l.length - i) 0 (Le.mk _ _ ?_ ?_) ?_ ?_
 · simp [upd,num,PV.kill]
 · simp
 · simp
 · intro i hi
   simp [num]
   refine f8 (fun h1=>?_) (fun h1=>?_)
   · have e1:(l.map G0)[i]?.getD .nilptr=G0 l[i]:=by simp [List.getElem?_eq_getElem h1]
     simp [num,h1,e1,f9,G0,tx]
     refine b7 rfl rfl (.inl rfl) (d1c l[i] (hx.2 _ (List.getElem_mem h1))) ?_
     simp
     refine LoopNext.mk (i+1) (by omega) (by omega) (Le.mk _ _ ?_ ?_)
     · simp [num];exact wrap_i64 (by omega) (by omega)
     · simp
   · simp
theorem c1v (x:LChannel) (left:Int) (h0:0≤left) (h1:left≤1048576) (hx:Q9 9223372036854775807 x):d8 Tryz.prog 67 [.val (j7 x),.val (num left)] (.ret (.val (num (cut left (L4 x)))) []) []:=by
 refine f6 mixed ok67 rfl (fun _=>rfl) ?_
 unfold ir67
 rw [b6]
 unfold Q9 at hx
 obtain ⟨b0,b1,b2⟩:=hx
 unfold L4
 simp [d9,i6,j9,b8,d7,L9,K8,j7,tx,num,b9,i7]
 refine b7 rfl rfl (.inl rfl) (c8c x.group left (by omega) (by omega) b0) ?_
 by_cases k0:left - ((a3n x.group:Nat):Int) < 0
 · first | rw [l6 (by omega),l6 (by omega)] | rw [l6 (by omega)]
   simp [L9,K8,j7,tx,num,b9,i7]
 · rw [K9 (show ¬ left - ((a3n x.group:Nat):Int) < 0 by omega)]
   simp [L9,K8,j7,tx,num,b9,i7,k0]
   refine b7 rfl rfl (.inl rfl) (c8b x.peers (left - (a3n x.group:Nat)) (by omega) (by omega) b1) ?_
   by_cases k1:(left - (a3n x.group:Nat)) - ((zS Z0 x.peers:Nat):Int) < 0
   · first | rw [l6 (by omega),l6 (by omega)] | rw [l6 (by omega)]
     simp [L9,K8,j7,tx,num,b9,i7]
   · rw [K9 (show ¬ (left - (a3n x.group:Nat)) - ((zS Z0 x.peers:Nat):Int) < 0 by omega)]
     simp [L9,K8,j7,tx,num,b9,i7,k0,k1]
     refine b7 rfl rfl (.inl rfl) (c8a x.queue (left - (a3n x.group:Nat) - (zS Z0 x.peers:Nat)) (by omega) (by omega) b2) ?_
     by_cases k2:(left - (a3n x.group:Nat) - (zS Z0 x.peers:Nat)) - ((a9v x.queue:Nat):Int) < 0
     · first | rw [l6 (by omega),l6 (by omega)] | rw [l6 (by omega)]
       simp [L9,K8,j7,tx,num,b9,i7]
     · first | rw [K9 (by omega),K9 (by omega)] | rw [K9 (by omega)]
       simp [L9,K8,j7,tx,num,b9,i7,k0,k1,k2]
       try omega
theorem c1z (x:LChannel) (hx:Q9 1048576 x):d8 Tryz.prog 87 [.val (j7 x),.val (j7 x)] (.ret (.val (.bool true)) []) []:=by
 refine f6 mixed ok87 rfl (fun _=>rfl) ?_
 unfold ir87
 rw [b6]
 unfold Q9 at hx
 obtain ⟨b0,b1,b2⟩:=hx
 simp [d9,i6,j9,b8,d7,L9,K8,j7,tx,num,i7]
 refine b7 rfl rfl (.inl rfl) (c8h x.group b0) ?_
 simp [L9,K8,j7,tx,num,i7]
 refine b7 rfl rfl (.inl rfl) (c8g x.peers b1) ?_
 simp [L9,K8,j7,tx,num,i7]
 refine b7 rfl rfl (.inl rfl) (c8f x.queue b2) ?_
 simp [L9,K8,j7,tx,num,i7]
theorem b9k (l:List LChannel) (left:Int) (h0:0≤left) (h1:left≤1048576) (hx:bdS 9223372036854775807 (Q9 9223372036854775807) l):d8 Tryz.prog 31 [.val (.list 6 (l.map j7)),.val (num left)] (.ret (.val (num (cut left (zS L4 l)))) []) []:=by
 refine f6 mixed ok31 rfl (fun _=>rfl) ?_
 unfold ir31
 rw [b6]
 have hl:l.length≤9223372036854775807:=hx.1
 have hw:IntKind.i64.wrap (left - (l.length:Int))=left - l.length:=wrap_i64 (by omega) (by omega)
 have hzs:zS L4 l=l.length+G4 L4 l:=rfl
 by_cases h:left - (l.length:Int) < 0
 · rw [l6 (by omega)]
   simp [d9,i6,j9,b8,d7,num,hw,h]
 · simp [d9,i6,j9,b8,d7,num,hw,h]
   refine j8 (X:=Nat) (fun i=>⟨t6 [(0,.val (.list 6 (l.map j7))),(1,.val (num (left - l.length - (G4 L4 (l.take i):Nat)))),(5,.val (num i))],t8 []⟩) (fun i=>i≤l.length∧0≤left - l.length - (G4 L4 (l.take i):Nat)) (fun i=>l.length - i) 0 (Le.mk _ _ ?_ ?_) ?_ ?_
   · simp [upd,num,G4,PV.kill]
   · simp
   · simp [G4];omega
   · rintro i ⟨hi,hg⟩
     simp [num]
     refine f8 (fun h2=>?_) (fun h2=>?_)
     · have e1:(l.map j7)[i]?.getD .nilptr=j7 l[i]:=by simp [List.getElem?_eq_getElem h2]
       have hsn:G4 L4 (l.take (i+1))=G4 L4 (l.take i)+L4 l[i]:=a08 _ h2
       have hle:=a31 (f:=L4) l (i+1)
       simp [num,h2,e1,L9,K8,j7,tx]
       refine b7 rfl rfl (.inl rfl) (c1v l[i] (left - l.length - (G4 L4 (l.take i):Nat)) (by omega) (by omega) (hx.2 _ (List.getElem_mem h2))) ?_
       by_cases h3:left - (l.length:Int) - (G4 L4 (l.take i):Int) - (L4 l[i]:Int) < 0
       · have c1:cut (left - l.length - (G4 L4 (l.take i):Nat)) (L4 l[i])=-1:=l6 (by omega)
         have c2:cut left (zS L4 l)=-1:=l6 (by omega)
         rw [c1,c2]
         simp [num]
       · have c1:cut (left - l.length - (G4 L4 (l.take i):Nat)) (L4 l[i])=left - l.length - (G4 L4 (l.take i):Nat) - (L4 l[i]:Nat):=K9 (by omega)
         rw [c1]
         simp [num,h3]
         refine LoopNext.mk (i+1) ⟨by omega,by omega⟩ (by omega) (Le.mk _ _ ?_ ?_)
         · simp [num]
           exact ⟨by omega,wrap_i64 (by omega) (by omega)⟩
         · simp
     · have e1:i=l.length:=by omega
       subst e1
       rw [List.take_length] at *
       rw [K9 (by omega)]
       simp [num]
       omega
theorem b9l (l:List LChannel) (hx:bdS 1048576 (Q9 1048576) l):d8 Tryz.prog 43 [.val (.list 6 (l.map j7)),.val (.list 6 (l.map j7))] (.ret (.val (.bool true)) []) []:=by
 refine f6 mixed ok43 rfl (fun _=>rfl) ?_
 unfold ir43
 rw [b6]
 have hl:l.length≤1048576:=hx.1
 simp [d9,i6,j9,b8,d7,num]
 refine j8 (X:=Nat) (fun i=>⟨t6 [(0,.val (.list 6 (l.map j7))),(1,.val (.list 6 (l.map j7))),(5,.val (num i))],t8 []⟩) (fun i=>i≤l.length) (fun i=>l.length - i) 0 (Le.mk _ _ ?_ ?_) ?_ ?_
 · simp [upd,num,PV.kill]
 · simp
 · simp
 · intro i hi
   simp [num]
   refine f8 (fun h1=>?_) (fun h1=>?_)
   · have e1:(l.map j7)[i]?.getD .nilptr=j7 l[i]:=by simp [List.getElem?_eq_getElem h1]
     simp [num,h1,e1,L9,K8,j7,tx]
     refine b7 rfl rfl (.inl rfl) (c1z l[i] (hx.2 _ (List.getElem_mem h1))) ?_
     simp
     refine LoopNext.mk (i+1) (by omega) (by omega) (Le.mk _ _ ?_ ?_)
     · simp [num];exact wrap_i64 (by omega) (by omega)
     · simp
   · simp
theorem c4z (l:List LEntry) (left:Int) (h0:0≤left) (h1:left≤1048576) (hl:l.length≤9223372036854775807):d8 Tryz.prog 33 [.val (.list 3 (l.map A1)),.val (num left)] (.ret (.val (num (cut left l.length))) []) []:=by
 refine f6 mixed ok33 rfl (fun _=>rfl) ?_
 unfold ir33
 rw [b6]
 have hw:IntKind.i64.wrap (left - (l.length:Int))=left - l.length:=wrap_i64 (by omega) (by omega)
 by_cases h:left - (l.length:Int) < 0
 · rw [l6 (by omega)]
   simp [d9,i6,j9,b8,d7,num,hw,h]
 · rw [K9 (by omega)]
   simp [d9,i6,j9,b8,d7,num,hw,h]
theorem c77 (x:LEntry) (hx:b1k 1048576 x):d8 Tryz.prog 78 [.val (A1 x)] (.ret (.val (A1 x)) []) []:=by
 refine f6 mixed ok78 rfl (fun _=>rfl) ?_
 unfold ir78
 rw [b6]
 simp [d9,i6,j9,b8,d7,A1,tx,num,i7]
 refine (b8h (id:=2) (n:=3) (rs:=[num x.kind,num x.id,num x.at_]) ?_ ?_ rfl (by omega)).trans ?_
 · simp
 · simp [tx,num]
 · simp [A1,tx,num,i7]
theorem c8i (x:LEntry) (hx:b1k 1048576 x):d8 Tryz.prog 52 [.val (A1 x),.val (A1 x)] (.ret (.val (.bool true)) []) []:=by
 refine f6 mixed ok52 rfl (fun _=>rfl) ?_
 unfold ir52
 rw [b6]
 simp [d9,i6,j9,b8,d7,A1,tx,num,i7]
theorem c42 (l:List LEntry) (hx:l.length≤1048576):d8 Tryz.prog 18 [.val (.list 3 (l.map A1)),.val (.list 3 (l.map A1))] (.ret (.val (.bool true)) []) []:=by
 refine f6 mixed ok18 rfl (fun _=>rfl) ?_
 unfold ir18
 rw [b6]
 have hl:l.length≤1048576:=hx
 simp [d9,i6,j9,b8,d7,num]
 refine j8 (X:=Nat) (fun i=>⟨t6 [(0,.val (.list 3 (l.map A1))),(1,.val (.list 3 (l.map A1))),(5,.val (num i))],t8 []⟩) (fun i=>i≤l.length) (fun i=>l.length - i) 0 (Le.mk _ _ ?_ ?_) ?_ ?_
 · simp [upd,num,PV.kill]
 · simp
 · simp
 · intro i hi
   simp [num]
   refine f8 (fun h1=>?_) (fun h1=>?_)
   · have e1:(l.map A1)[i]?.getD .nilptr=A1 l[i]:=by simp [List.getElem?_eq_getElem h1]
     simp [num,h1,e1,A1,tx]
     refine b7 rfl rfl (.inl rfl) (c8i l[i] trivial) ?_
     simp
     refine LoopNext.mk (i+1) (by omega) (by omega) (Le.mk _ _ ?_ ?_)
     · simp [num];exact wrap_i64 (by omega) (by omega)
     · simp
   · simp
theorem d04 (x:LWire) (left:Int) (h0:0≤left) (h1:left≤1048576) (hx:Z2 9223372036854775807 x):d8 Tryz.prog 70 [.val (H6 x),.val (num left)] (.ret (.val (num (cut left (Z7 x)))) []) []:=by
 refine f6 mixed ok70 rfl (fun _=>rfl) ?_
 unfold ir70
 rw [b6]
 unfold Z2 at hx
 obtain ⟨b0,b1,b2,b3⟩:=hx
 unfold Z7
 have w0:IntKind.i64.wrap (left - ((x.group.length:Nat):Int))=left - ((x.group.length:Nat):Int):=wrap_i64 (by omega) (by omega)
 by_cases k0:left - ((x.group.length:Nat):Int) < 0
 · rw [l6 (by omega)]
   simp [d9,i6,j9,b8,d7,H6,tx,num,b9,i7,w0,k0]
 · skip
   have w1:IntKind.i64.wrap ((left - (x.group.length:Nat)) - ((x.url.length:Nat):Int))=(left - (x.group.length:Nat)) - ((x.url.length:Nat):Int):=wrap_i64 (by omega) (by omega)
   by_cases k1:(left - (x.group.length:Nat)) - ((x.url.length:Nat):Int) < 0
   · rw [l6 (by omega)]
     simp [d9,i6,j9,b8,d7,H6,tx,num,b9,i7,w0,w1,k0,k1]
   · simp [d9,i6,j9,b8,d7,H6,tx,num,b9,i7,w0,w1,k0,k1]
     refine b7 rfl rfl (.inl rfl) (d08 x.ids (left - (x.group.length:Nat) - (x.url.length:Nat)) (by omega) (by omega) b2) ?_
     by_cases k2:(left - (x.group.length:Nat) - (x.url.length:Nat)) - ((x.ids.length:Nat):Int) < 0
     · first | rw [l6 (by omega),l6 (by omega)] | rw [l6 (by omega)]
       simp [H6,tx,num,b9,i7]
     · rw [K9 (show ¬ (left - (x.group.length:Nat) - (x.url.length:Nat)) - ((x.ids.length:Nat):Int) < 0 by omega)]
       simp [H6,tx,num,b9,i7,k0,k1,k2]
       have w3:IntKind.i64.wrap ((left - (x.group.length:Nat) - (x.url.length:Nat) - (x.ids.length:Nat)) - ((x.body.length:Nat):Int))=(left - (x.group.length:Nat) - (x.url.length:Nat) - (x.ids.length:Nat)) - ((x.body.length:Nat):Int):=wrap_i64 (by omega) (by omega)
       by_cases k3:(left - (x.group.length:Nat) - (x.url.length:Nat) - (x.ids.length:Nat)) - ((x.body.length:Nat):Int) < 0
       · rw [l6 (by omega)]
         simp [H6,tx,num,b9,i7,w0,w1,w3,k0,k1,k2,k3]
       · rw [K9 (by omega)]
         simp [H6,tx,num,b9,i7,w0,w1,w3,k0,k1,k2,k3]
         try omega
theorem d09 (x:LWire) (hx:Z2 1048576 x):d8 Tryz.prog 90 [.val (H6 x),.val (H6 x)] (.ret (.val (.bool true)) []) []:=by
 refine f6 mixed ok90 rfl (fun _=>rfl) ?_
 unfold ir90
 rw [b6]
 unfold Z2 at hx
 obtain ⟨b0,b1,b2,b3⟩:=hx
 simp [d9,i6,j9,b8,d7,H6,tx,num,i7]
 refine b7 rfl rfl (.inl rfl) (c1y x.ids b2) ?_
 simp [H6,tx,num,i7]
theorem c78 (l:List LWire) (left:Int) (h0:0≤left) (h1:left≤1048576) (hx:bdS 9223372036854775807 (Z2 9223372036854775807) l):d8 Tryz.prog 34 [.val (.list 7 (l.map H6)),.val (num left)] (.ret (.val (num (cut left (zS Z7 l)))) []) []:=by
 refine f6 mixed ok34 rfl (fun _=>rfl) ?_
 unfold ir34
 rw [b6]
 have hl:l.length≤9223372036854775807:=hx.1
 have hw:IntKind.i64.wrap (left - (l.length:Int))=left - l.length:=wrap_i64 (by omega) (by omega)
 have hzs:zS Z7 l=l.length+G4 Z7 l:=rfl
 by_cases h:left - (l.length:Int) < 0
 · rw [l6 (by omega)]
   simp [d9,i6,j9,b8,d7,num,hw,h]
 · simp [d9,i6,j9,b8,d7,num,hw,h]
   refine j8 (X:=Nat) (fun i=>⟨t6 [(0,.val (.list 7 (l.map H6))),(1,.val (num (left - l.length - (G4 Z7 (l.take i):Nat)))),(5,.val (num i))],t8 []⟩) (fun i=>i≤l.length∧0≤left - l.length - (G4 Z7 (l.take i):Nat)) (fun i=>l.length - i) 0 (Le.mk _ _ ?_ ?_) ?_ ?_
   · simp [upd,num,G4,PV.kill]
   · simp
   · simp [G4];omega
   · rintro i ⟨hi,hg⟩
     simp [num]
     refine f8 (fun h2=>?_) (fun h2=>?_)
     · have e1:(l.map H6)[i]?.getD .nilptr=H6 l[i]:=by simp [List.getElem?_eq_getElem h2]
       have hsn:G4 Z7 (l.take (i+1))=G4 Z7 (l.take i)+Z7 l[i]:=a08 _ h2
       have hle:=a31 (f:=Z7) l (i+1)
       simp [num,h2,e1,H6,tx]
       refine b7 rfl rfl (.inl rfl) (d04 l[i] (left - l.length - (G4 Z7 (l.take i):Nat)) (by omega) (by omega) (hx.2 _ (List.getElem_mem h2))) ?_
       by_cases h3:left - (l.length:Int) - (G4 Z7 (l.take i):Int) - (Z7 l[i]:Int) < 0
       · have c1:cut (left - l.length - (G4 Z7 (l.take i):Nat)) (Z7 l[i])=-1:=l6 (by omega)
         have c2:cut left (zS Z7 l)=-1:=l6 (by omega)
         rw [c1,c2]
         simp [num]
       · have c1:cut (left - l.length - (G4 Z7 (l.take i):Nat)) (Z7 l[i])=left - l.length - (G4 Z7 (l.take i):Nat) - (Z7 l[i]:Nat):=K9 (by omega)
         rw [c1]
         simp [num,h3]
         refine LoopNext.mk (i+1) ⟨by omega,by omega⟩ (by omega) (Le.mk _ _ ?_ ?_)
         · simp [num]
           exact ⟨by omega,wrap_i64 (by omega) (by omega)⟩
         · simp
     · have e1:i=l.length:=by omega
       subst e1
       rw [List.take_length] at *
       rw [K9 (by omega)]
       simp [num]
       omega
theorem c8d (l:List LWire) (hx:bdS 1048576 (Z2 1048576) l):d8 Tryz.prog 45 [.val (.list 7 (l.map H6)),.val (.list 7 (l.map H6))] (.ret (.val (.bool true)) []) []:=by
 refine f6 mixed ok45 rfl (fun _=>rfl) ?_
 unfold ir45
 rw [b6]
 have hl:l.length≤1048576:=hx.1
 simp [d9,i6,j9,b8,d7,num]
 refine j8 (X:=Nat) (fun i=>⟨t6 [(0,.val (.list 7 (l.map H6))),(1,.val (.list 7 (l.map H6))),(5,.val (num i))],t8 []⟩) (fun i=>i≤l.length) (fun i=>l.length - i) 0 (Le.mk _ _ ?_ ?_) ?_ ?_
 · simp [upd,num,PV.kill]
 · simp
 · simp
 · intro i hi
   simp [num]
   refine f8 (fun h1=>?_) (fun h1=>?_)
   · have e1:(l.map H6)[i]?.getD .nilptr=H6 l[i]:=by simp [List.getElem?_eq_getElem h1]
     simp [num,h1,e1,H6,tx]
     refine b7 rfl rfl (.inl rfl) (d09 l[i] (hx.2 _ (List.getElem_mem h1))) ?_
     simp
     refine LoopNext.mk (i+1) (by omega) (by omega) (Le.mk _ _ ?_ ?_)
     · simp [num];exact wrap_i64 (by omega) (by omega)
     · simp
   · simp
theorem d06 (x:LPipe) (left:Int) (h0:0≤left) (h1:left≤1048576) (hx:Z3 9223372036854775807 x):d8 Tryz.prog 9 [.val (G1 x),.val (num left)] (.ret (.val (num (cut left (b31 x)))) []) []:=by
 refine f6 mixed ok9 rfl (fun _=>rfl) ?_
 unfold ir9
 rw [b6]
 unfold Z3 at hx
 obtain ⟨b0,b1,b2,b3⟩:=hx
 unfold b31
 simp [d9,i6,j9,b8,d7,w8,G1,tx,num,b9,i7]
 refine b7 rfl rfl (.inl rfl) (b9k x.channels left (by omega) (by omega) b0) ?_
 by_cases k0:left - ((zS L4 x.channels:Nat):Int) < 0
 · first | rw [l6 (by omega),l6 (by omega)] | rw [l6 (by omega)]
   simp [w8,G1,tx,num,b9,i7]
 · rw [K9 (show ¬ left - ((zS L4 x.channels:Nat):Int) < 0 by omega)]
   simp [w8,G1,tx,num,b9,i7,k0]
   refine b7 rfl rfl (.inl rfl) (c4y x.policy (left - (zS L4 x.channels:Nat)) (by omega) (by omega) b1) ?_
   by_cases k1:(left - (zS L4 x.channels:Nat)) - ((a1t x.policy:Nat):Int) < 0
   · first | rw [l6 (by omega),l6 (by omega)] | rw [l6 (by omega)]
     simp [w8,G1,tx,num,b9,i7]
   · rw [K9 (show ¬ (left - (zS L4 x.channels:Nat)) - ((a1t x.policy:Nat):Int) < 0 by omega)]
     simp [w8,G1,tx,num,b9,i7,k0,k1]
     refine b7 rfl rfl (.inl rfl) (c4z x.log (left - (zS L4 x.channels:Nat) - (a1t x.policy:Nat)) (by omega) (by omega) b2) ?_
     by_cases k2:(left - (zS L4 x.channels:Nat) - (a1t x.policy:Nat)) - ((x.log.length:Nat):Int) < 0
     · first | rw [l6 (by omega),l6 (by omega)] | rw [l6 (by omega)]
       simp [w8,G1,tx,num,b9,i7]
     · rw [K9 (show ¬ (left - (zS L4 x.channels:Nat) - (a1t x.policy:Nat)) - ((x.log.length:Nat):Int) < 0 by omega)]
       simp [w8,G1,tx,num,b9,i7,k0,k1,k2]
       refine b7 rfl rfl (.inl rfl) (c78 x.wires (left - (zS L4 x.channels:Nat) - (a1t x.policy:Nat) - (x.log.length:Nat)) (by omega) (by omega) b3) ?_
       by_cases k3:(left - (zS L4 x.channels:Nat) - (a1t x.policy:Nat) - (x.log.length:Nat)) - ((zS Z7 x.wires:Nat):Int) < 0
       · first | rw [l6 (by omega),l6 (by omega)] | rw [l6 (by omega)]
         simp [w8,G1,tx,num,b9,i7]
       · first | rw [K9 (by omega),K9 (by omega)] | rw [K9 (by omega)]
         simp [w8,G1,tx,num,b9,i7,k0,k1,k2,k3]
         try omega
theorem d1b (x:LPipe) (hx:Z3 1048576 x):d8 Tryz.prog 13 [.val (G1 x),.val (G1 x)] (.ret (.val (.bool true)) []) []:=by
 refine f6 mixed ok13 rfl (fun _=>rfl) ?_
 unfold ir13
 rw [b6]
 unfold Z3 at hx
 obtain ⟨b0,b1,b2,b3⟩:=hx
 simp [d9,i6,j9,b8,d7,w8,G1,tx,num,i7]
 refine b7 rfl rfl (.inl rfl) (b9l x.channels b0) ?_
 simp [w8,G1,tx,num,i7]
 refine b7 rfl rfl (.inl rfl) (c41 x.policy b1) ?_
 simp [w8,G1,tx,num,i7]
 refine b7 rfl rfl (.inl rfl) (c42 x.log b2) ?_
 simp [w8,G1,tx,num,i7]
 refine b7 rfl rfl (.inl rfl) (c8d x.wires b3) ?_
 simp [w8,G1,tx,num,i7]
end Go.Proofs
end
section
namespace Go.Proofs
open Go.PW Go.KP
attribute [local simp] RV.cells RV.one PV.cells PV.solid PV.one G3 i7 L8 L5 RV.ofCells elems PV.killL
variable [GF]
theorem b46 (r:LReport) (b1 b2 b3 b4:Bool) (h1:d8 Tryz.prog 56 [.val (.int .i64 r.id),.val (.int .i64 1),.val (.int .i64 1000000)] (.ret (.val (.bool b1)) []) []) (h2:d8 Tryz.prog 56 [.val (.int .i64 r.born),.val (.int .i64 0),.val (.int .i64 1000000)] (.ret (.val (.bool b2)) []) [])
 (h3:d8 Tryz.prog 56 [.val (.int .i64 r.tries),.val (.int .i64 0),.val (.int .i64 3)] (.ret (.val (.bool b3)) []) []) (h4:d8 Tryz.prog 56 [.val (.int .i64 r.body.length),.val (.int .i64 1),.val (.int .i64 8000)] (.ret (.val (.bool b4)) []) []) :
 d8 Tryz.prog 152 [.val (j4 r)] (.ret (.val (.bool (b1 && b2 && b3 && b4))) []) []:=by
 refine f6 mixed ok152 rfl (fun _=>rfl) ?_
 unfold ir152
 rw [b6]
 simp [d9,i6,j9,b8,d7,j4,tx,num,b9]
 refine b7 rfl rfl (.inl rfl) h1 ?_
 cases b1 with
 | false=>simp
 | true=>
  simp [num,b9]
  refine b7 rfl rfl (.inl rfl) h2 ?_
  cases b2 with
  | false=>simp
  | true=>
   simp [num,b9]
   refine b7 rfl rfl (.inl rfl) h3 ?_
   cases b3 with
   | false=>simp
   | true=>
    simp [num,b9]
    refine b7 rfl rfl (.inl rfl) h4 ?_
    cases b4<;>simp
theorem c2n (r:LReport):d8 Tryz.prog 152 [.val (j4 r)] (.ret (.val (.bool (Z5 r))) []) []:=by
 have h:=b46 r _ _ _ _ (U1 .i64 r.id 1 1000000) (U1 .i64 r.born 0 1000000) (U1 .i64 r.tries 0 3) (U1 .i64 r.body.length 1 8000)
 have q:(1≤r.body.length∧r.body.length≤8000)↔((1:Int)≤r.body.length∧(r.body.length:Int)≤8000):=by omega
 unfold Z5
 rw [decide_eq_decide.2 q]
 exact h
theorem c_l08At (l:List LChannel) (name:Tx) (hl:l.length < 1099511627776):d8 Tryz.prog 72 [.val (.list 6 (l.map j7)),.val (tx name)] (.ret (.val (num (a06 l fun r=>decide (r.group.name=name)))) []) []:=by
 refine f6 mixed ok72 rfl (fun _=>rfl) ?_
 unfold ir72
 rw [b6]
 simp [d9,i6,j9,b8,d7,num]
 refine j8 (X:=Nat) (fun i=>⟨t6 [(0,.val (.list 6 (l.map j7))),(1,.val (tx name)),(5,.val (num i))],t8 []⟩) (fun i=>i≤l.length∧∀ k (hk:k < i) (hk':k < l.length),l[k].group.name≠name) (fun i=>l.length - i) 0 (Le.mk _ _ ?_ ?_) ?_ ?_
 · simp [upd,num]
 · simp
 · simp
 · rintro i ⟨hi,hne⟩
   simp [num]
   refine f8 (fun h1=>?_) (fun h1=>?_)
   · have e1:(l.map j7)[i]?.getD .nilptr=j7 l[i]:=by simp [List.getElem?_eq_getElem h1]
     simp [num,h1,e1,j7,tx,L2]
     by_cases hu:l[i].group.name=name
     · have hh:a06 l (fun r=>decide (r.group.name=name))=i:=a0e h1 (by simp [hu]) (fun k hk=>by simp [hne k hk (by omega)])
       simp [hu,hh,num]
     · simp [hu]
       refine LoopNext.mk (i+1) ⟨by omega,fun k hk hk'=>?_⟩ (by omega) (Le.mk _ _ ?_ ?_)
       · by_cases e:k=i
         · subst e;exact hu
         · exact hne k (by omega) hk'
       · simp [num,tx];exact wrap_i64 (by omega) (by omega)
       · simp
   · have e:i=l.length:=by omega
     have hh:a06 l (fun r=>decide (r.group.name=name))=-1:=Y1 (fun k hk=>by simp [hne k (by omega) hk])
     simp [hh,num]
theorem c_l06OK (q:LQueue) (hb:a2m 1048576 q):d8 Tryz.prog 114 [.val (K8 q)] (.ret (.val (.bool (T0 q))) []) []:=by
 refine f6 mixed ok114 rfl (fun _=>rfl) ?_
 unfold ir114
 rw [b6]
 by_cases h5:q.items.length≤5
 rotate_left
 · have h5':(5:Int) < q.items.length:=by omega
   have:T0 q=false:=by unfold T0;rw [decide_eq_false h5];rfl
   simp [d9,i6,j9,b8,d7,K8,h5',this]
 have h5':¬ (5:Int) < q.items.length:=by omega
 by_cases h6:q.recent.length≤6
 rotate_left
 · have h6':(6:Int) < q.recent.length:=by omega
   have:T0 q=false:=by unfold T0;rw [decide_eq_false h6];simp
   simp [d9,i6,j9,b8,d7,K8,h5',h6',this]
 have h6':¬ (6:Int) < q.recent.length:=by omega
 have hfin:a0o q.items.length (a5h q.items)=true→a0o q.recent.length (a9k q.recent)=true→T0 q=true:=fun a b=>by
  unfold T0;rw [decide_eq_true h5,decide_eq_true h6,a,b];rfl
 simp [d9,i6,j9,b8,d7,K8,h5',h6']
 refine j8 (X:=Nat) (fun i=>⟨t6 [(1,.ptr 1 0),(3,.val (num i))],t8 [(1,.box [.val (.list 4 (q.items.map j4)),.val (.list 1 (q.recent.map tx))])]⟩) (fun i=>i≤q.items.length∧a0o i (a5h q.items)=true) (fun i=>q.items.length - i) 0 (Le.mk _ _ ?_ ?_) ?_ ?_
 · simp [upd,num]
 · simp
 · simp [a09]
 · rintro i ⟨hi,hall⟩
   simp [num]
   refine f8 (fun h1=>?_) (fun h1=>?_)
   · have G6:=b06 (q:=q) h1
     have hsu:=a0w (a5h q.items) i
     rw [hall,Bool.true_and] at hsu
     obtain ⟨r,hr⟩:∃ r,q.items[i]=r:=⟨_,rfl⟩
     have hR:=c2n r
     have wi:IntKind.i64.wrap ((i:Int)+1)=((i+1:Nat):Int):=by rw [wrap_i64 (by omega) (by omega)];omega
     by_cases h0:i=0
     · subst h0
       rw [b4j h1,hr] at G6 hsu
       simp [num,h1,hr,j4,tx]
       refine z8 rfl rfl (.inl rfl) hR ?_
       cases hk:Z5 r with
       | false=>simp [G6 hk]
       | true=>
        simp [num]
        refine LoopNext.mk 1 ⟨by omega,by rw [hsu,hk]⟩ (by omega) (Le.mk _ _ ?_ ?_)
        · simp [num,upd];decide
        · simp [tx]
     · obtain ⟨j,hij⟩:∃ j,i=j+1:=⟨i - 1,by omega⟩
       have hj:j < q.items.length:=by omega
       obtain ⟨s,hs⟩:∃ s,q.items[j]=s:=⟨_,rfl⟩
       have hra:a5h q.items i=(Z5 r && (decide (s.id < r.id) && decide (s.born≤r.born))):=by
        subst hij;rw [b4k h1,hr,hs]
       rw [hra] at G6 hsu
       have wj:IntKind.i64.wrap ((i:Int) - 1)=(j:Int):=by rw [wrap_i64 (by omega) (by omega)];omega
       have hp:0 < i:=by omega
       simp [num,h1,hr,j4,tx]
       refine z8 rfl rfl (.inl rfl) hR ?_
       cases hk:Z5 r with
       | false=>simp [G6 (by rw [hk];rfl)]
       | true=>
        rw [hk,Bool.true_and] at G6 hsu
        by_cases hA:s.id < r.id
        · have hA':¬ r.id≤s.id:=by omega
          by_cases hB:s.born≤r.born
          · have hB':¬ r.born < s.born:=by omega
            simp [num,h1,hr,hs,hj,hp,wj,j4,tx,hA',hB']
            refine LoopNext.mk (i+1) ⟨by omega,by rw [hsu,decide_eq_true hA,decide_eq_true hB];rfl⟩ (by omega) (Le.mk _ _ ?_ ?_)
            · simp [num,wi]
            · simp [tx]
          · have hB':r.born < s.born:=by omega
            simp [num,h1,hr,hs,hj,hp,wj,j4,tx,hA',hB',G6 (by rw [decide_eq_false hB,Bool.and_false])]
        · have hA':r.id≤s.id:=by omega
          simp [num,h1,hr,hs,hj,hp,wj,j4,tx,hA',G6 (by rw [decide_eq_false hA,Bool.false_and])]
   · have e:i=q.items.length:=by omega
     subst e
     simp [num]
     refine j8 (X:=Nat) (fun i=>⟨t6 [(1,.ptr 1 0),(4,.val (num i))],t8 [(1,.box [.val (.list 4 (q.items.map j4)),.val (.list 1 (q.recent.map tx))])]⟩) (fun i=>i≤q.recent.length∧a0o i (a9k q.recent)=true) (fun i=>q.recent.length - i) 0 (Le.mk _ _ ?_ ?_) ?_ ?_
     · simp [upd,num]
     · simp
     · simp [a09]
     · rintro i ⟨hi2,hall2⟩
       simp [num]
       refine f8 (fun h1=>?_) (fun h1=>?_)
       · have G6:=b07 (q:=q) h1
         have hsu:=a0w (a9k q.recent) i
         rw [hall2,Bool.true_and] at hsu
         rw [c0j h1] at G6 hsu
         obtain ⟨r,hr⟩:∃ r,q.recent[i]=r:=⟨_,rfl⟩
         rw [hr] at G6 hsu
         have hR:=U1 .i64 r.length 1 8000
         have hq:(1≤r.length∧r.length≤8000)↔((1:Int)≤r.length∧(r.length:Int)≤8000):=by omega
         rw [decide_eq_decide.2 hq] at G6 hsu
         have hH:=c2p (q.recent.take i) r (by simp;omega)
         have wi:IntKind.i64.wrap ((i:Int)+1)=((i+1:Nat):Int):=by rw [wrap_i64 (by omega) (by omega)];omega
         have hile:i≤q.recent.length:=by omega
         simp [num,h1,hr,tx,b9]
         refine z8 rfl rfl (.inl rfl) hR ?_
         cases hk:decide ((1:Int)≤r.length∧(r.length:Int)≤8000) with
         | false=>simp [G6 (by rw [hk];rfl)]
         | true=>
          rw [hk,Bool.true_and] at G6 hsu
          simp [num,h1,hr,tx,hile,← List.map_take]
          refine z8 rfl rfl (.inl rfl) hH ?_
          by_cases hm:r∈q.recent.take i
          · simp [hm,G6 (by rw [decide_eq_false (fun h=>h hm)])]
          · simp [hm]
            refine LoopNext.mk (i+1) ⟨by omega,by rw [hsu,decide_eq_true hm]⟩ (by omega) (Le.mk _ _ ?_ ?_)
            · simp [num,wi]
            · simp [tx]
       · have e:i=q.recent.length:=by omega
         subst e
         simp [hfin hall hall2]
def T1 (p:LPipe):MObj:=.box [.val (.list 6 (p.channels.map j7)),.val (tx p.policy.reportTo),.val (.list 1 (p.policy.uris.map tx)),.val (.list 2 (p.policy.rules.map l5)),.val (num p.now),.val (num p.next),.val (.list 3 (p.log.map A1)),.val (.list 7 (p.wires.map H6))]
def c2u (c:LChannel):MObj:=.box [.val (tx c.group.name),.val (num c.group.age),.val (.list 3 (c.group.targets.map f9)),.val (.list 6 (c.peers.map G0)),.val (.list 4 (c.queue.items.map j4)),.val (.list 1 (c.queue.recent.map tx))]
theorem b9s (p:LPipe) (c:LChannel) (hb:Q9 1048576 c):d8 Tryz.prog 73 [.val (G1 p),.val (j7 c)] (.ret (.val (.bool (S0 p.next p.now c))) []) []:=by
 have hO:=c_l03OK c.group hb.1
 have hpl:c.peers.length≤1048576:=hb.2.1.1
 have htl:c.group.targets.length≤1048576:=hb.1.2.1
 have hP:=c_l07OK c.peers (by omega) (fun x hx=>by have:=hb.2.1.2 x hx;unfold a1b U5 at this;omega)
 have hQ:=c_l06OK c.queue hb.2.2
 have hql:c.queue.items.length≤1048576:=hb.2.2.1.1
 refine f6 mixed ok73 rfl (fun _=>rfl) ?_
 unfold ir73
 rw [b6]
 simp [d9,i6,j9,b8,d7,G1,j7,tx,num]
 refine b7 rfl rfl (.inl rfl) hO ?_
 cases hg:a3b c.group with
 | false=>
  have hf:S0 p.next p.now c=false:=by unfold S0;rw [hg];rfl
  simp [hf]
 | true=>
 simp [num]
 refine b7 rfl rfl (.inl rfl) hP ?_
 cases hp:a0d c.peers with
 | false=>
  have hf:S0 p.next p.now c=false:=by unfold S0;rw [hg,hp];rfl
  simp [hf]
 | true=>
 by_cases hl:c.peers.length=c.group.targets.length
 rotate_left
 · have hf:S0 p.next p.now c=false:=by
    unfold S0
    rw [decide_eq_false (fun h=>hl (by have:=congrArg List.length h;simpa using this))]
    simp
   have hl':¬ ((c.peers.length:Int)=c.group.targets.length):=by omega
   simp [hf,hl,hl']
 simp [num,hl]
 refine b7 rfl rfl (.inl rfl) hQ ?_
 cases hq:T0 c.queue with
 | false=>
  have hf:S0 p.next p.now c=false:=by unfold S0;rw [hq];simp
  simp [hf]
 | true=>
 have hch:S0 p.next p.now c=(decide (c.peers.map (fun p=>p.target)=c.group.targets) && c.queue.items.all fun r=>decide (r.id < p.next) && decide (r.born≤p.now)):=by
  unfold S0;rw [hg,hp,hq];simp
 rw [hch]
 simp [num]
 refine j8 (X:=Nat) (fun i=>⟨t6 [(2,.ptr 2 0),(3,.ptr 3 0),(5,.val (num i))],t8 [(2,T1 p),(3,c2u c)]⟩) (fun i=>i≤c.peers.length∧∀ k,k < i→∀ (h:k < c.peers.length) (h':k < c.group.targets.length),(c.peers[k]).target=c.group.targets[k]) (fun i=>c.peers.length - i) 0 (Le.mk _ _ ?_ ?_) ?_ ?_
 · simp [upd,num,PV.kill]
 · simp [T1,c2u,tx,num,MObj.kill,PV.kill]
 · simp
 · rintro i ⟨hi,hall⟩
   simp [num,c2u]
   refine f8 (fun h1=>?_) (fun h1=>?_)
   · have h1':i < c.group.targets.length:=by omega
     obtain ⟨x,hx⟩:∃ x,c.peers[i]=x:=⟨_,rfl⟩
     obtain ⟨t,ht⟩:∃ t,c.group.targets[i]=t:=⟨_,rfl⟩
     have wi:IntKind.i64.wrap ((i:Int)+1)=((i+1:Nat):Int):=by rw [wrap_i64 (by omega) (by omega)];omega
     have G6:x.target≠t→(decide (c.peers.map (fun p=>p.target)=c.group.targets) && c.queue.items.all fun r=>decide (r.id < p.next) && decide (r.born≤p.now))=false:=fun hne=>by
      rw [decide_eq_false,Bool.false_and]
      intro he
      apply hne
      have:=congrArg (fun l=>l[i]?) he
      simp [List.getElem?_eq_getElem h1,List.getElem?_eq_getElem h1',hx,ht] at this
      exact this
     by_cases hu:x.target.url=t.url
     · by_cases hp2:x.target.prio=t.prio
       · by_cases hw:x.target.weight=t.weight
         · have hxt:x.target=t:=by
            cases hxx:x.target;cases t
            rw [hxx] at hu hp2 hw
            simp only at hu hp2 hw
            subst hu;subst hp2;subst hw;rfl
           simp [num,h1,h1',hx,ht,G0,f9,tx,P0,a4l,a3q,L2,hu,hp2,hw]
           refine LoopNext.mk (i+1) ⟨by omega,fun k hk h h'=>?_⟩ (by omega) (Le.mk _ _ ?_ ?_)
           · by_cases e:k=i
             · subst e;rw [hx,ht];exact hxt
             · exact hall k (by omega) h h'
           · simp [num,wi]
           · simp [c2u,T1,tx,num]
         · simp [num,h1,h1',hx,ht,G0,f9,tx,P0,a4l,a3q,L2,hu,hp2,hw,G6 (fun e=>hw (by rw [e]))]
       · simp [num,h1,h1',hx,ht,G0,f9,tx,P0,a4l,a3q,L2,hu,hp2,G6 (fun e=>hp2 (by rw [e]))]
     · simp [num,h1,h1',hx,ht,G0,f9,tx,P0,a4l,a3q,L2,hu,G6 (fun e=>hu (by rw [e]))]
   · have e:i=c.peers.length:=by omega
     subst e
     have heq:c.peers.map (fun p=>p.target)=c.group.targets:=by
      refine List.ext_getElem (by simpa using hl) fun k h h'=>?_
      simp only [List.getElem_map]
      exact hall k (by simpa using h) (by simpa using h) h'
     rw [decide_eq_true heq,Bool.true_and]
     simp [num]
     refine j8 (X:=Nat) (fun i=>⟨t6 [(2,.ptr 2 0),(3,.ptr 3 0),(6,.val (num i))],t8 [(2,T1 p),(3,c2u c)]⟩) (fun i=>i≤c.queue.items.length∧((c.queue.items.take i).all fun r=>decide (r.id < p.next) && decide (r.born≤p.now))=true) (fun i=>c.queue.items.length - i) 0 (Le.mk _ _ ?_ ?_) ?_ ?_
     · simp [upd,num,PV.kill]
     · simp [T1,c2u,tx,num,MObj.kill,PV.kill]
     · simp
     · rintro i ⟨hi2,hall2⟩
       simp [num,c2u]
       refine f8 (fun h2=>?_) (fun h2=>?_)
       · have hst:((c.queue.items.take (i+1)).all fun r=>decide (r.id < p.next) && decide (r.born≤p.now))=_:=R8 _ _ _ h2
         rw [hall2,Bool.true_and] at hst
         obtain ⟨r,hr⟩:∃ r,c.queue.items[i]=r:=⟨_,rfl⟩
         rw [hr] at hst
         have wi:IntKind.i64.wrap ((i:Int)+1)=((i+1:Nat):Int):=by rw [wrap_i64 (by omega) (by omega)];omega
         have G6:(decide (r.id < p.next) && decide (r.born≤p.now))=false→(c.queue.items.all fun r=>decide (r.id < p.next) && decide (r.born≤p.now))=false:=fun h=>by
          rw [List.all_eq_false]
          exact ⟨r,by rw [← hr];exact List.getElem_mem h2,by rw [h];simp⟩
         by_cases hA:r.id < p.next
         · have hA':¬ p.next≤r.id:=by omega
           by_cases hB:r.born≤p.now
           · have hB':¬ p.now < r.born:=by omega
             simp [num,h2,hr,j4,tx,T1,PV.kill,MObj.kill,hA',hB']
             refine LoopNext.mk (i+1) ⟨by omega,by rw [hst,decide_eq_true hA,decide_eq_true hB];rfl⟩ (by omega) (Le.mk _ _ ?_ ?_)
             · simp [num,wi,PV.kill]
             · simp [c2u,T1,MObj.kill,PV.kill,tx,num]
           · have hB':p.now < r.born:=by omega
             simp [num,h2,hr,j4,tx,T1,PV.kill,MObj.kill,hA',hB',G6 (by rw [decide_eq_false hB,Bool.and_false])]
         · have hA':p.next≤r.id:=by omega
           simp [num,h2,hr,j4,tx,T1,PV.kill,MObj.kill,hA',G6 (by rw [decide_eq_false hA,Bool.false_and])]
       · have e:i=c.queue.items.length:=by omega
         subst e
         rw [List.take_length] at hall2
         simp [hall2]
end Go.Proofs
end
section
namespace Go.Proofs
open Go.PW Go.KP
attribute [local simp] RV.cells RV.one PV.cells PV.solid PV.one G3 i7 L8 L5 RV.ofCells elems PV.killL
variable [GF]
def b6k (w:LWire):MObj:=.box [.val (num w.at_),.val (num w.status),.val (tx w.group),.val (tx w.url),.val (.list 1 (w.ids.map num)),.val (tx w.body),.val (.bool w.lost)]
theorem b84 (p:LPipe) (w:LWire) (b1 b2 b3 b5:Bool) (hn:1≤p.next∧p.next≤1000000) (hil:w.ids.length≤1048576) (h1:d8 Tryz.prog 56 [.val (.int .i64 w.at_),.val (.int .i64 0),.val (.int .i64 p.now)] (.ret (.val (.bool b1)) []) [])
 (h2:d8 Tryz.prog 56 [.val (.int .i64 w.status),.val (.int .i64 100),.val (.int .i64 599)] (.ret (.val (.bool b2)) []) []) (h3:d8 Tryz.prog 115 [.val (tx w.group)] (.ret (.val (.bool b3)) []) [])
 (h5:d8 Tryz.prog 56 [.val (.int .i64 w.ids.length),.val (.int .i64 1),.val (.int .i64 3)] (.ret (.val (.bool b5)) []) []) :
 d8 Tryz.prog 74 [.val (G1 p),.val (H6 w)] (.ret (.val (.bool (b1 && b2 && b3 && decide (w.url.length≤100) && b5 && decide (w.body.length≤65536) && a0o w.ids.length (a74 p.next w.ids)))) []) []:=by
 refine f6 mixed ok74 rfl (fun _=>rfl) ?_
 unfold ir74
 rw [b6]
 simp [d9,i6,j9,b8,d7,G1,H6,tx,num]
 refine b7 rfl rfl (.inl rfl) h1 ?_
 cases b1 with
 | false=>simp
 | true=>
 simp [num]
 refine b7 rfl rfl (.inl rfl) h2 ?_
 cases b2 with
 | false=>simp
 | true=>
 simp [num]
 refine b7 rfl rfl (.inl rfl) h3 ?_
 cases b3 with
 | false=>simp
 | true=>
 by_cases hu:w.url.length≤100
 rotate_left
 · have hu':(100:Int) < w.url.length:=by omega
   simp [num,b9,hu',hu]
 have hu':¬ (100:Int) < w.url.length:=by omega
 simp [num,b9,hu',hu]
 refine b7 rfl rfl (.inl rfl) h5 ?_
 cases b5 with
 | false=>simp
 | true=>
 by_cases hy:w.body.length≤65536
 rotate_left
 · have hy':(65536:Int) < w.body.length:=by omega
   simp [num,b9,hy',hy]
 have hy':¬ (65536:Int) < w.body.length:=by omega
 simp [num,b9,hy',hy]
 have wn:IntKind.i64.wrap (p.next - 1)=p.next - 1:=wrap_i64 (by omega) (by omega)
 refine j8 (X:=Nat) (fun i=>⟨t6 [(2,.ptr 2 0),(3,.ptr 3 0),(5,.val (num i))],t8 [(2,T1 p),(3,b6k w)]⟩) (fun i=>i≤w.ids.length∧a0o i (a74 p.next w.ids)=true) (fun i=>w.ids.length - i) 0 (Le.mk _ _ ?_ ?_) ?_ ?_
 · simp [upd,num,PV.kill]
 · simp [T1,b6k,tx,num,MObj.kill,PV.kill]
 · simp [a09]
 · rintro i ⟨hi,hall⟩
   simp [num,b6k]
   refine f8 (fun hlt=>?_) (fun hlt=>?_)
   · have G6:a74 p.next w.ids i=false→a0o w.ids.length (a74 p.next w.ids)=false:=a4h hlt
     have hsu:=a0w (a74 p.next w.ids) i
     rw [hall,Bool.true_and] at hsu
     obtain ⟨r,hr⟩:∃ r,w.ids[i]=r:=⟨_,rfl⟩
     have hR:=U1 .i64 r 1 (p.next - 1)
     have wi:IntKind.i64.wrap ((i:Int)+1)=((i+1:Nat):Int):=by rw [wrap_i64 (by omega) (by omega)];omega
     by_cases h0:i=0
     · subst h0
       rw [b7m hlt,hr] at G6 hsu
       simp [num,hlt,hr,tx,T1,wn]
       refine z8 rfl rfl (.inl rfl) hR ?_
       cases hk:decide (1≤r∧r≤p.next - 1) with
       | false=>simp [G6 hk]
       | true=>
        simp [num]
        refine LoopNext.mk 1 ⟨by omega,by rw [hsu,hk]⟩ (by omega) (Le.mk _ _ ?_ ?_)
        · simp [num,upd];decide
        · simp [tx,T1,b6k,num]
     · obtain ⟨j,hij⟩:∃ j,i=j+1:=⟨i - 1,by omega⟩
       have hj:j < w.ids.length:=by omega
       obtain ⟨s,hs⟩:∃ s,w.ids[j]=s:=⟨_,rfl⟩
       have hra:a74 p.next w.ids i=(decide (1≤r∧r≤p.next - 1) && decide (s < r)):=by
        subst hij;rw [b7n hlt,hr,hs]
       rw [hra] at G6 hsu
       have wj:IntKind.i64.wrap ((i:Int) - 1)=(j:Int):=by rw [wrap_i64 (by omega) (by omega)];omega
       have hp:0 < i:=by omega
       simp [num,hlt,hr,tx,T1,wn]
       refine z8 rfl rfl (.inl rfl) hR ?_
       cases hk:decide (1≤r∧r≤p.next - 1) with
       | false=>simp [G6 (by rw [hk];rfl)]
       | true=>
        rw [hk,Bool.true_and] at G6 hsu
        by_cases hA:s < r
        · have hA':¬ r≤s:=by omega
          simp [num,hlt,hr,hs,hj,hp,wj,tx,hA']
          refine LoopNext.mk (i+1) ⟨by omega,by rw [hsu,decide_eq_true hA]⟩ (by omega) (Le.mk _ _ ?_ ?_)
          · simp [num,wi]
          · simp [tx,T1,b6k,num]
        · have hA':r≤s:=by omega
          simp [num,hlt,hr,hs,hj,hp,wj,tx,hA',G6 (decide_eq_false hA)]
   · have e:i=w.ids.length:=by omega
     subst e
     simp [hall,hu,hy]
theorem c8t (p:LPipe) (w:LWire) (hn:1≤p.next∧p.next≤1000000) (hb:Z2 1048576 w):d8 Tryz.prog 74 [.val (G1 p),.val (H6 w)] (.ret (.val (.bool (X4 p.next p.now w))) []) []:=by
 have hgl:w.group.length≤1048576:=hb.1
 have hil:w.ids.length≤1048576:=hb.2.2.1
 have q:(1≤w.ids.length∧w.ids.length≤3)↔((1:Int)≤w.ids.length∧(w.ids.length:Int)≤3):=by omega
 unfold X4
 rw [decide_eq_decide.2 q]
 exact b84 p w _ _ _ _ hn hil (U1 .i64 w.at_ 0 p.now) (U1 .i64 w.status 100 599) (b2f w.group (by omega)) (U1 .i64 w.ids.length 1 3)
theorem c2i (p:LPipe) (i:Nat) (h:i < p.channels.length):(a06 p.channels fun c=>decide (c.group.name=(p.channels[i]).group.name))=(i:Int)↔(p.channels[i]).group.name∉(p.channels.map fun c=>c.group.name).take i:=b13 (fun c:LChannel=>c.group.name) p.channels i h
theorem c_l08OK (p:LPipe) (hb:Z3 1048576 p):d8 Tryz.prog 35 [.val (G1 p)] (.ret (.val (.bool (O7 p))) []) []:=by
 have hcl:p.channels.length≤1048576:=hb.1.1
 have hP:=c_l04OK p.policy hb.2.1
 have hN:=U1 .i64 p.now 0 1000000
 have hX:=U1 .i64 p.next 1 1000000
 refine f6 mixed ok35 rfl (fun _=>rfl) ?_
 unfold ir35
 rw [b6]
 by_cases h5:p.channels.length≤5
 rotate_left
 · have h5':(5:Int) < p.channels.length:=by omega
   have hf:O7 p=false:=by unfold O7;rw [decide_eq_false h5];rfl
   simp [d9,i6,j9,b8,d7,G1,tx,num,h5',hf]
 have h5':¬ (5:Int) < p.channels.length:=by omega
 simp [d9,i6,j9,b8,d7,G1,tx,num,h5']
 refine b7 rfl rfl (.inl rfl) hP ?_
 cases hpol:Y0 p.policy with
 | false=>
  have hf:O7 p=false:=by unfold O7;rw [hpol];simp
  simp [hf]
 | true=>
 simp [num]
 refine b7 rfl rfl (.inl rfl) hN ?_
 cases hnow:decide (0≤p.now∧p.now≤1000000) with
 | false=>
  have hf:O7 p=false:=by unfold O7;rw [hnow];simp
  simp [hf]
 | true=>
 simp [num]
 refine b7 rfl rfl (.inl rfl) hX ?_
 cases hnext:decide (1≤p.next∧p.next≤1000000) with
 | false=>
  have hf:O7 p=false:=by unfold O7;rw [hnext];simp
  simp [hf]
 | true=>
 by_cases hll:p.log.length≤4096
 rotate_left
 · have hll':(4096:Int) < p.log.length:=by omega
   have hf:O7 p=false:=by unfold O7;rw [decide_eq_false hll];simp
   simp [num,hll',hf]
 have hll':¬ (4096:Int) < p.log.length:=by omega
 by_cases hwl:p.wires.length≤4096
 rotate_left
 · have hwl':(4096:Int) < p.wires.length:=by omega
   have hf:O7 p=false:=by unfold O7;rw [decide_eq_false hwl];simp
   simp [num,hll',hwl',hf]
 have hwl':¬ (4096:Int) < p.wires.length:=by omega
 have hpk:O7 p=(a0o p.channels.length (a3g p) && a0o p.log.length (a4e p.next p.now p.log) && p.wires.all (X4 p.next p.now)):=by
  unfold O7;rw [decide_eq_true h5,hpol,hnow,hnext,decide_eq_true hll,decide_eq_true hwl];simp
 have hn2:1≤p.next∧p.next≤1000000:=of_decide_eq_true hnext
 have wn:IntKind.i64.wrap (p.next - 1)=p.next - 1:=wrap_i64 (by omega) (by omega)
 rw [hpk]
 simp [num,hll',hwl']
 refine j8 (X:=Nat) (fun i=>⟨t6 [(1,.ptr 1 0),(3,.val (num i))],t8 [(1,T1 p)]⟩) (fun i=>i≤p.channels.length∧a0o i (a3g p)=true) (fun i=>p.channels.length - i) 0 (Le.mk _ _ ?_ ?_) ?_ ?_
 · simp [upd,num,PV.kill]
 · simp [T1,tx,num,MObj.kill,PV.kill]
 · simp [a09]
 · rintro i ⟨hi,hall⟩
   simp [num,T1]
   refine f8 (fun hlt=>?_) (fun hlt=>?_)
   · have G6:a3g p i=false→(a0o p.channels.length (a3g p) && a0o p.log.length (a4e p.next p.now p.log) && p.wires.all (X4 p.next p.now))=false:=fun h=>by rw [a4h hlt h];rfl
     have hsu:=a0w (a3g p) i
     rw [hall,Bool.true_and] at hsu
     rw [b7u hlt] at G6 hsu
     have hnm:=c2i p i hlt
     obtain ⟨c,hc⟩:∃ c,p.channels[i]=c:=⟨_,rfl⟩
     have hbc:Q9 1048576 c:=by rw [← hc];exact hb.1.2 _ (List.getElem_mem hlt)
     rw [hc] at G6 hsu hnm
     have hA:=c_l08At p.channels c.group.name (by omega)
     have hC:=b9s p c hbc
     have wi:IntKind.i64.wrap ((i:Int)+1)=((i+1:Nat):Int):=by rw [wrap_i64 (by omega) (by omega)];omega
     simp [num,hlt,hc,j7,tx]
     refine z8 rfl rfl (.inl rfl) hA ?_
     by_cases hu:c.group.name∈(p.channels.map fun c=>c.group.name).take i
     · have hne:¬ (a06 p.channels fun x=>decide (x.group.name=c.group.name))=(i:Int):=fun h=>hnm.1 h hu
       simp [num,hne,G6 (by rw [decide_eq_false (fun h=>h hu),Bool.false_and])]
     · have heq:=hnm.2 hu
       rw [decide_eq_true hu,Bool.true_and] at G6 hsu
       simp [num,heq,hlt,hc,j7,tx]
       refine z8 rfl rfl (.inl rfl) hC ?_
       cases hk:S0 p.next p.now c with
       | false=>simp [G6 hk]
       | true=>
        simp
        refine LoopNext.mk (i+1) ⟨by omega,by rw [hsu,hk]⟩ (by omega) (Le.mk _ _ ?_ ?_)
        · simp [num,wi]
        · simp [tx,T1,num]
   · have e:i=p.channels.length:=by omega
     subst e
     rw [hall,Bool.true_and]
     simp [num]
     refine j8 (X:=Nat) (fun i=>⟨t6 [(1,.ptr 1 0),(4,.val (num i))],t8 [(1,T1 p)]⟩) (fun i=>i≤p.log.length∧a0o i (a4e p.next p.now p.log)=true) (fun i=>p.log.length - i) 0 (Le.mk _ _ ?_ ?_) ?_ ?_
     · simp [upd,num,PV.kill]
     · simp [T1,tx,num,MObj.kill,PV.kill]
     · simp [a09]
     · rintro i ⟨hi2,hall2⟩
       simp [num,T1]
       refine f8 (fun hlt=>?_) (fun hlt=>?_)
       · have G6:a4e p.next p.now p.log i=false→(a0o p.log.length (a4e p.next p.now p.log) && p.wires.all (X4 p.next p.now))=false:=fun h=>by rw [a4h hlt h];rfl
         have hsu:=a0w (a4e p.next p.now p.log) i
         have hlo:=b1f (by omega) hall2
         rw [hall2,Bool.true_and] at hsu
         rw [b5t hlt] at G6 hsu
         obtain ⟨x,hx⟩:∃ x,p.log[i]=x:=⟨_,rfl⟩
         rw [hx] at G6 hsu
         have hK:=U1 .i64 x.kind 1 7
         have hI:=U1 .i64 x.id 1 (p.next - 1)
         have hT:=U1 .i64 x.at_ 0 p.now
         have wi:IntKind.i64.wrap ((i:Int)+1)=((i+1:Nat):Int):=by rw [wrap_i64 (by omega) (by omega)];omega
         simp [num,hlt,hx,A1,tx,PV.kill,MObj.kill]
         refine z8 rfl rfl (.inl rfl) hK ?_
         cases hk:decide (1≤x.kind∧x.kind≤7) with
         | false=>simp [G6 (by rw [hk];rfl)]
         | true=>
         rw [hk,Bool.true_and] at G6 hsu
         simp [num,wn,PV.kill]
         refine z8 rfl rfl (.inl rfl) hI ?_
         cases hid:decide (1≤x.id∧x.id≤p.next - 1) with
         | false=>simp [G6 (by rw [hid];rfl)]
         | true=>
         rw [hid,Bool.true_and] at G6 hsu
         simp [num,wn,PV.kill]
         refine z8 rfl rfl (.inl rfl) hT ?_
         cases hat:decide (0≤x.at_∧x.at_≤p.now) with
         | false=>simp [G6 (decide_eq_false (fun h=>(of_decide_eq_false hat) ⟨by omega,h.2⟩))]
         | true=>
         have hat2:=of_decide_eq_true hat
         by_cases h0:i=0
         · subst h0
           have hl0:a9t p.log 0=0:=rfl
           rw [hl0] at hsu
           simp [num]
           refine LoopNext.mk 1 ⟨by omega,by rw [hsu,hat]⟩ (by omega) (Le.mk _ _ ?_ ?_)
           · simp [num,upd,PV.kill];decide
           · simp [tx,T1,num,PV.kill,MObj.kill]
         · obtain ⟨j,hij⟩:∃ j,i=j+1:=⟨i - 1,by omega⟩
           have hj:j < p.log.length:=by omega
           obtain ⟨y,hy⟩:∃ y,p.log[j]=y:=⟨_,rfl⟩
           have hly:a9t p.log i=y.at_:=by subst hij;rw [b0f hj,hy]
           rw [hly] at G6 hsu
           have wj:IntKind.i64.wrap ((i:Int) - 1)=(j:Int):=by rw [wrap_i64 (by omega) (by omega)];omega
           have hp:0 < i:=by omega
           by_cases hA:x.at_ < y.at_
           · simp [num,hlt,hx,hy,hj,hp,wj,A1,tx,PV.kill,MObj.kill,hA,G6 (decide_eq_false (fun h=>by omega))]
           · simp [num,hlt,hx,hy,hj,hp,wj,A1,tx,PV.kill,MObj.kill,hA]
             refine LoopNext.mk (i+1) ⟨by omega,by rw [hsu];exact decide_eq_true ⟨by omega,hat2.2⟩⟩ (by omega) (Le.mk _ _ ?_ ?_)
             · simp [num,wi,PV.kill]
             · simp [tx,T1,num,PV.kill,MObj.kill]
       · have e:i=p.log.length:=by omega
         subst e
         rw [hall2,Bool.true_and]
         simp [num]
         refine j8 (X:=Nat) (fun i=>⟨t6 [(1,.ptr 1 0),(6,.val (num i))],t8 [(1,T1 p)]⟩) (fun i=>i≤p.wires.length∧(p.wires.take i).all (X4 p.next p.now)=true) (fun i=>p.wires.length - i) 0 (Le.mk _ _ ?_ ?_) ?_ ?_
         · simp [upd,num,PV.kill]
         · simp [T1,tx,num,MObj.kill,PV.kill]
         · simp
         · rintro i ⟨hi3,hall3⟩
           simp [num,T1]
           refine f8 (fun hlt3=>?_) (fun hlt3=>?_)
           · have hst:=R8 p.wires (X4 p.next p.now) i hlt3
             rw [hall3,Bool.true_and] at hst
             obtain ⟨x,hx⟩:∃ x,p.wires[i]=x:=⟨_,rfl⟩
             have hbw:Z2 1048576 x:=by rw [← hx];exact hb.2.2.2.2 _ (List.getElem_mem hlt3)
             rw [hx] at hst
             have hW:=c8t p x hn2 hbw
             have wi:IntKind.i64.wrap ((i:Int)+1)=((i+1:Nat):Int):=by rw [wrap_i64 (by omega) (by omega)];omega
             have G6:X4 p.next p.now x=false→p.wires.all (X4 p.next p.now)=false:=fun h=>List.all_eq_false.2 ⟨x,by rw [← hx];exact List.getElem_mem hlt3,by simp [h]⟩
             simp [num,hlt3,hx,H6,tx]
             refine z8 rfl rfl (.inl rfl) hW ?_
             cases hk:X4 p.next p.now x with
             | false=>simp [G6 hk]
             | true=>
              simp
              refine LoopNext.mk (i+1) ⟨by omega,by rw [hst,hk]⟩ (by omega) (Le.mk _ _ ?_ ?_)
              · simp [num,wi]
              · simp [tx,T1,num]
           · have e:i=p.wires.length:=by omega
             subst e
             rw [List.take_length] at hall3
             simp [hall3]
end Go.Proofs
end
