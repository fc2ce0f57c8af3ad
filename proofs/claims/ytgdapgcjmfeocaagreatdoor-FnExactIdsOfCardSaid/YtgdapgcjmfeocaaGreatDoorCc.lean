/- Cc: merged out of KSl, KSp, KSt, KSu, KSx. -/
import Derived.Test.YtgdapgcjmfeocaaGreatDoorCa
import Derived.Test.YtgdapgcjmfeocaaGreatDoorAc
import Derived.Test.YtgdapgcjmfeocaaGreatDoorBa
import Derived.Test.YtgdapgcjmfeocaaGreatDoorCb
set_option linter.unusedSectionVars false
set_option linter.unusedSimpArgs false
set_option linter.unusedVariables false
set_option maxRecDepth 100000
section
namespace Go.Proofs
open Go.PW Go.KP
attribute [local simp] RV.cells RV.one PV.cells PV.solid PV.one G4 i7 L9 L6 RV.ofCells elems PV.killL
variable [GF]
theorem a77 (l:List Tx) (left:Int) (h0:0≤left) (h1:left≤1048576) (hx:bdS 9223372036854775807 (fun t=>t.length≤9223372036854775807) l):d8 Tryz.prog 68 [.val (.list 1 (l.map tx)),.val (num left)] (.ret (.val (num (cut left (zS List.length l)))) []) []:=by
 refine f7 mixed ok68 rfl (fun _=>rfl) ?_
 unfold ir68
 rw [b6]
 have hl:l.length≤9223372036854775807:=hx.1
 have hw:IntKind.i64.wrap (left - (l.length:Int))=left - l.length:=wrap_i64 (by omega) (by omega)
 have hzs:zS List.length l=l.length+G5 List.length l:=rfl
 by_cases h:left - (l.length:Int) < 0
 · rw [l6 (by omega)]
   simp [d9,i6,j8,b8,d7,num,hw,h]
 · simp [d9,i6,j8,b8,d7,num,hw,h]
   refine j9 (X:=Nat) (fun i=>⟨t6 [(0,.val (.list 1 (l.map tx))),(1,.val (num (left - l.length - (G5 List.length (l.take i):Nat)))),(5,.val (num i))],u1 []⟩) (fun i=>i≤l.length∧0≤left - l.length - (G5 List.length (l.take i):Nat)) (fun i=>l.length - i) 0 (Le.mk _ _ ?_ ?_) ?_ ?_
   · simp [upd,num,G5,PV.kill]
   · simp
   · simp [G5];omega
   · rintro i ⟨hi,hg⟩
     simp [num]
     refine f8 (fun h2=>?_) (fun h2=>?_)
     · have e1:(l.map tx)[i]?.getD .nilptr=tx l[i]:=by simp [List.getElem?_eq_getElem h2]
       have hsn:G5 List.length (l.take (i+1))=G5 List.length (l.take i)+List.length l[i]:=a09 _ h2
       have hle:=a32 (f:=List.length) l (i+1)
       have hxi:l[i].length≤9223372036854775807:=hx.2 _ (List.getElem_mem h2)
       have hw2:IntKind.i64.wrap (left - (l.length:Int) - (G5 List.length (l.take i):Int) - (l[i].length:Int))=left - (l.length:Int) - (G5 List.length (l.take i):Int) - (l[i].length:Int):=wrap_i64 (by omega) (by omega)
       by_cases h3:left - (l.length:Int) - (G5 List.length (l.take i):Int) - (l[i].length:Int) < 0
       · rw [l6 (by omega)]
         simp [num,h2,e1,tx,b9,hw2,h3]
       · simp [num,h2,e1,tx,b9,hw2,h3]
         refine LoopNext.mk (i+1) ⟨by omega,by omega⟩ (by omega) (Le.mk _ _ ?_ ?_)
         · simp [num]
           exact ⟨by omega,wrap_i64 (by omega) (by omega)⟩
         · simp
     · have e1:i=l.length:=by omega
       subst e1
       rw [List.take_length] at *
       rw [L2 (by omega)]
       simp [num]
       omega
theorem a78 (l:List Tx) (hx:bdS 1048576 (fun t=>t.length≤1048576) l):d8 Tryz.prog 88 [.val (.list 1 (l.map tx)),.val (.list 1 (l.map tx))] (.ret (.val (.bool true)) []) []:=by
 refine f7 mixed ok88 rfl (fun _=>rfl) ?_
 unfold ir88
 rw [b6]
 have hl:l.length≤1048576:=hx.1
 simp [d9,i6,j8,b8,d7,num]
 refine j9 (X:=Nat) (fun i=>⟨t6 [(0,.val (.list 1 (l.map tx))),(1,.val (.list 1 (l.map tx))),(5,.val (num i))],u1 []⟩) (fun i=>i≤l.length) (fun i=>l.length - i) 0 (Le.mk _ _ ?_ ?_) ?_ ?_
 · simp [upd,num,PV.kill]
 · simp
 · simp
 · intro i hi
   simp [num]
   refine f8 (fun h1=>?_) (fun h1=>?_)
   · have e1:(l.map tx)[i]?.getD .nilptr=tx l[i]:=by simp [List.getElem?_eq_getElem h1]
     simp [num,h1,e1,tx]
     refine LoopNext.mk (i+1) (by omega) (by omega) (Le.mk _ _ ?_ ?_)
     · simp [num];exact wrap_i64 (by omega) (by omega)
     · simp
   · simp
theorem d0y (x:LRule) (left:Int) (h0:0≤left) (h1:left≤1048576) (hx:X7 9223372036854775807 x):d8 Tryz.prog 105 [.val (l5 x),.val (num left)] (.ret (.val (num (cut left (Z9 x)))) []) []:=by
 refine f7 mixed ok105 rfl (fun _=>rfl) ?_
 unfold ir105
 rw [b6]
 unfold X7 at hx
 obtain ⟨b0,b1⟩:=hx
 unfold Z9
 have w0:IntKind.i64.wrap (left - ((x.name.length:Nat):Int))=left - ((x.name.length:Nat):Int):=wrap_i64 (by omega) (by omega)
 by_cases k0:left - ((x.name.length:Nat):Int) < 0
 · rw [l6 (by omega)]
   simp [d9,i6,j8,b8,d7,l5,tx,num,b9,i7,w0,k0]
 · simp [d9,i6,j8,b8,d7,l5,tx,num,b9,i7,w0,k0]
   refine b7 rfl rfl (.inl rfl) (a77 x.words (left - (x.name.length:Nat)) (by omega) (by omega) b1) ?_
   by_cases k1:(left - (x.name.length:Nat)) - ((zS List.length x.words:Nat):Int) < 0
   · first | rw [l6 (by omega),l6 (by omega)] | rw [l6 (by omega)]
     simp [l5,tx,num,b9,i7]
   · first | rw [L2 (by omega),L2 (by omega)] | rw [L2 (by omega)]
     simp [l5,tx,num,b9,i7,k0,k1]
     try omega
theorem d03 (x:LRule) (hx:X7 1048576 x):d8 Tryz.prog 141 [.val (l5 x),.val (l5 x)] (.ret (.val (.bool true)) []) []:=by
 refine f7 mixed ok141 rfl (fun _=>rfl) ?_
 unfold ir141
 rw [b6]
 unfold X7 at hx
 obtain ⟨b0,b1⟩:=hx
 simp [d9,i6,j8,b8,d7,l5,tx,num,i7]
 refine b7 rfl rfl (.inl rfl) (a78 x.words b1) ?_
 simp [l5,tx,num,i7]
theorem c7x (l:List LRule) (left:Int) (h0:0≤left) (h1:left≤1048576) (hx:bdS 9223372036854775807 (X7 9223372036854775807) l):d8 Tryz.prog 69 [.val (.list 2 (l.map l5)),.val (num left)] (.ret (.val (num (cut left (zS Z9 l)))) []) []:=by
 refine f7 mixed ok69 rfl (fun _=>rfl) ?_
 unfold ir69
 rw [b6]
 have hl:l.length≤9223372036854775807:=hx.1
 have hw:IntKind.i64.wrap (left - (l.length:Int))=left - l.length:=wrap_i64 (by omega) (by omega)
 have hzs:zS Z9 l=l.length+G5 Z9 l:=rfl
 by_cases h:left - (l.length:Int) < 0
 · rw [l6 (by omega)]
   simp [d9,i6,j8,b8,d7,num,hw,h]
 · simp [d9,i6,j8,b8,d7,num,hw,h]
   refine j9 (X:=Nat) (fun i=>⟨t6 [(0,.val (.list 2 (l.map l5))),(1,.val (num (left - l.length - (G5 Z9 (l.take i):Nat)))),(5,.val (num i))],u1 []⟩) (fun i=>i≤l.length∧0≤left - l.length - (G5 Z9 (l.take i):Nat)) (fun i=>l.length - i) 0 (Le.mk _ _ ?_ ?_) ?_ ?_
   · simp [upd,num,G5,PV.kill]
   · simp
   · simp [G5];omega
   · rintro i ⟨hi,hg⟩
     simp [num]
     refine f8 (fun h2=>?_) (fun h2=>?_)
     · have e1:(l.map l5)[i]?.getD .nilptr=l5 l[i]:=by simp [List.getElem?_eq_getElem h2]
       have hsn:G5 Z9 (l.take (i+1))=G5 Z9 (l.take i)+Z9 l[i]:=a09 _ h2
       have hle:=a32 (f:=Z9) l (i+1)
       simp [num,h2,e1,l5,tx]
       refine b7 rfl rfl (.inl rfl) (d0y l[i] (left - l.length - (G5 Z9 (l.take i):Nat)) (by omega) (by omega) (hx.2 _ (List.getElem_mem h2))) ?_
       by_cases h3:left - (l.length:Int) - (G5 Z9 (l.take i):Int) - (Z9 l[i]:Int) < 0
       · have c1:cut (left - l.length - (G5 Z9 (l.take i):Nat)) (Z9 l[i])=-1:=l6 (by omega)
         have c2:cut left (zS Z9 l)=-1:=l6 (by omega)
         rw [c1,c2]
         simp [num]
       · have c1:cut (left - l.length - (G5 Z9 (l.take i):Nat)) (Z9 l[i])=left - l.length - (G5 Z9 (l.take i):Nat) - (Z9 l[i]:Nat):=L2 (by omega)
         rw [c1]
         simp [num,h3]
         refine LoopNext.mk (i+1) ⟨by omega,by omega⟩ (by omega) (Le.mk _ _ ?_ ?_)
         · simp [num]
           exact ⟨by omega,wrap_i64 (by omega) (by omega)⟩
         · simp
     · have e1:i=l.length:=by omega
       subst e1
       rw [List.take_length] at *
       rw [L2 (by omega)]
       simp [num]
       omega
theorem c72 (l:List LRule) (hx:bdS 1048576 (X7 1048576) l):d8 Tryz.prog 89 [.val (.list 2 (l.map l5)),.val (.list 2 (l.map l5))] (.ret (.val (.bool true)) []) []:=by
 refine f7 mixed ok89 rfl (fun _=>rfl) ?_
 unfold ir89
 rw [b6]
 have hl:l.length≤1048576:=hx.1
 simp [d9,i6,j8,b8,d7,num]
 refine j9 (X:=Nat) (fun i=>⟨t6 [(0,.val (.list 2 (l.map l5))),(1,.val (.list 2 (l.map l5))),(5,.val (num i))],u1 []⟩) (fun i=>i≤l.length) (fun i=>l.length - i) 0 (Le.mk _ _ ?_ ?_) ?_ ?_
 · simp [upd,num,PV.kill]
 · simp
 · simp
 · intro i hi
   simp [num]
   refine f8 (fun h1=>?_) (fun h1=>?_)
   · have e1:(l.map l5)[i]?.getD .nilptr=l5 l[i]:=by simp [List.getElem?_eq_getElem h1]
     simp [num,h1,e1,l5,tx]
     refine b7 rfl rfl (.inl rfl) (d03 l[i] (hx.2 _ (List.getElem_mem h1))) ?_
     simp
     refine LoopNext.mk (i+1) (by omega) (by omega) (Le.mk _ _ ?_ ?_)
     · simp [num];exact wrap_i64 (by omega) (by omega)
     · simp
   · simp
theorem c4k (x:LPolicy) (left:Int) (h0:0≤left) (h1:left≤1048576) (hx:a0h 9223372036854775807 x):d8 Tryz.prog 32 [.val (w8 x),.val (num left)] (.ret (.val (num (cut left (a1u x)))) []) []:=by
 refine f7 mixed ok32 rfl (fun _=>rfl) ?_
 unfold ir32
 rw [b6]
 unfold a0h at hx
 obtain ⟨b0,b1,b2⟩:=hx
 unfold a1u
 have w0:IntKind.i64.wrap (left - ((x.reportTo.length:Nat):Int))=left - ((x.reportTo.length:Nat):Int):=wrap_i64 (by omega) (by omega)
 by_cases k0:left - ((x.reportTo.length:Nat):Int) < 0
 · rw [l6 (by omega)]
   simp [d9,i6,j8,b8,d7,w8,tx,num,b9,i7,w0,k0]
 · simp [d9,i6,j8,b8,d7,w8,tx,num,b9,i7,w0,k0]
   refine b7 rfl rfl (.inl rfl) (a77 x.uris (left - (x.reportTo.length:Nat)) (by omega) (by omega) b1) ?_
   by_cases k1:(left - (x.reportTo.length:Nat)) - ((zS List.length x.uris:Nat):Int) < 0
   · first | rw [l6 (by omega),l6 (by omega)] | rw [l6 (by omega)]
     simp [w8,tx,num,b9,i7]
   · rw [L2 (show ¬ (left - (x.reportTo.length:Nat)) - ((zS List.length x.uris:Nat):Int) < 0 by omega)]
     simp [w8,tx,num,b9,i7,k0,k1]
     refine b7 rfl rfl (.inl rfl) (c7x x.rules (left - (x.reportTo.length:Nat) - (zS List.length x.uris:Nat)) (by omega) (by omega) b2) ?_
     by_cases k2:(left - (x.reportTo.length:Nat) - (zS List.length x.uris:Nat)) - ((zS Z9 x.rules:Nat):Int) < 0
     · first | rw [l6 (by omega),l6 (by omega)] | rw [l6 (by omega)]
       simp [w8,tx,num,b9,i7]
     · first | rw [L2 (by omega),L2 (by omega)] | rw [L2 (by omega)]
       simp [w8,tx,num,b9,i7,k0,k1,k2]
       try omega
theorem c4n (x:LPolicy) (hx:a0h 1048576 x):d8 Tryz.prog 44 [.val (w8 x),.val (w8 x)] (.ret (.val (.bool true)) []) []:=by
 refine f7 mixed ok44 rfl (fun _=>rfl) ?_
 unfold ir44
 rw [b6]
 unfold a0h at hx
 obtain ⟨b0,b1,b2⟩:=hx
 simp [d9,i6,j8,b8,d7,w8,tx,num,i7]
 refine b7 rfl rfl (.inl rfl) (a78 x.uris b1) ?_
 simp [w8,tx,num,i7]
 refine b7 rfl rfl (.inl rfl) (c72 x.rules b2) ?_
 simp [w8,tx,num,i7]
end Go.Proofs
end
section
namespace Go.Proofs
open Go.PW Go.KP
attribute [local simp] RV.cells RV.one PV.cells PV.solid PV.one G4 i7 L9 L6 RV.ofCells elems PV.killL
variable [GF]
theorem b5e (x:LTarget) (left:Int) (h0:0≤left) (h1:left≤1048576) (hx:U5 9223372036854775807 x):d8 Tryz.prog 189 [.val (f9 x),.val (num left)] (.ret (.val (num (cut left (S3 x)))) []) []:=by
 refine f7 mixed ok189 rfl (fun _=>rfl) ?_
 unfold ir189
 rw [b6]
 unfold U5 at hx
 have b0:=hx
 unfold S3
 have w0:IntKind.i64.wrap (left - ((x.url.length:Nat):Int))=left - ((x.url.length:Nat):Int):=wrap_i64 (by omega) (by omega)
 by_cases k0:left - ((x.url.length:Nat):Int) < 0
 · rw [l6 (by omega)]
   simp [d9,i6,j8,b8,d7,f9,tx,num,b9,i7,w0,k0]
 · rw [L2 (by omega)]
   simp [d9,i6,j8,b8,d7,f9,tx,num,b9,i7,w0,k0]
   try omega
theorem b5c (x:LTarget) (hx:U5 1048576 x):d8 Tryz.prog 194 [.val (f9 x)] (.ret (.val (f9 x)) []) []:=by
 refine f7 mixed ok194 rfl (fun _=>rfl) ?_
 unfold ir194
 rw [b6]
 unfold U5 at hx
 have b0:=hx
 simp [d9,i6,j8,b8,d7,f9,tx,num,i7]
 refine (b73 (id:=2) (n:=3) (rs:=[tx x.url,num x.prio,num x.weight]) ?_ ?_ rfl (by omega)).trans ?_
 · simp
 · simp [tx,num]
 · simp [f9,tx,num,i7]
theorem b5f (x:LTarget) (hx:U5 1048576 x):d8 Tryz.prog 207 [.val (f9 x),.val (f9 x)] (.ret (.val (.bool true)) []) []:=by
 refine f7 mixed ok207 rfl (fun _=>rfl) ?_
 unfold ir207
 rw [b6]
 unfold U5 at hx
 have b0:=hx
 simp [d9,i6,j8,b8,d7,f9,tx,num,i7]
theorem c1g (l:List LTarget) (left:Int) (h0:0≤left) (h1:left≤1048576) (hx:bdS 9223372036854775807 (U5 9223372036854775807) l):d8 Tryz.prog 144 [.val (.list 3 (l.map f9)),.val (num left)] (.ret (.val (num (cut left (zS S3 l)))) []) []:=by
 refine f7 mixed ok144 rfl (fun _=>rfl) ?_
 unfold ir144
 rw [b6]
 have hl:l.length≤9223372036854775807:=hx.1
 have hw:IntKind.i64.wrap (left - (l.length:Int))=left - l.length:=wrap_i64 (by omega) (by omega)
 have hzs:zS S3 l=l.length+G5 S3 l:=rfl
 by_cases h:left - (l.length:Int) < 0
 · rw [l6 (by omega)]
   simp [d9,i6,j8,b8,d7,num,hw,h]
 · simp [d9,i6,j8,b8,d7,num,hw,h]
   refine j9 (X:=Nat) (fun i=>⟨t6 [(0,.val (.list 3 (l.map f9))),(1,.val (num (left - l.length - (G5 S3 (l.take i):Nat)))),(5,.val (num i))],u1 []⟩) (fun i=>i≤l.length∧0≤left - l.length - (G5 S3 (l.take i):Nat)) (fun i=>l.length - i) 0 (Le.mk _ _ ?_ ?_) ?_ ?_
   · simp [upd,num,G5,PV.kill]
   · simp
   · simp [G5];omega
   · rintro i ⟨hi,hg⟩
     simp [num]
     refine f8 (fun h2=>?_) (fun h2=>?_)
     · have e1:(l.map f9)[i]?.getD .nilptr=f9 l[i]:=by simp [List.getElem?_eq_getElem h2]
       have hsn:G5 S3 (l.take (i+1))=G5 S3 (l.take i)+S3 l[i]:=a09 _ h2
       have hle:=a32 (f:=S3) l (i+1)
       simp [num,h2,e1,f9,tx]
       refine b7 rfl rfl (.inl rfl) (b5e l[i] (left - l.length - (G5 S3 (l.take i):Nat)) (by omega) (by omega) (hx.2 _ (List.getElem_mem h2))) ?_
       by_cases h3:left - (l.length:Int) - (G5 S3 (l.take i):Int) - (S3 l[i]:Int) < 0
       · have c1:cut (left - l.length - (G5 S3 (l.take i):Nat)) (S3 l[i])=-1:=l6 (by omega)
         have c2:cut left (zS S3 l)=-1:=l6 (by omega)
         rw [c1,c2]
         simp [num]
       · have c1:cut (left - l.length - (G5 S3 (l.take i):Nat)) (S3 l[i])=left - l.length - (G5 S3 (l.take i):Nat) - (S3 l[i]:Nat):=L2 (by omega)
         rw [c1]
         simp [num,h3]
         refine LoopNext.mk (i+1) ⟨by omega,by omega⟩ (by omega) (Le.mk _ _ ?_ ?_)
         · simp [num]
           exact ⟨by omega,wrap_i64 (by omega) (by omega)⟩
         · simp
     · have e1:i=l.length:=by omega
       subst e1
       rw [List.take_length] at *
       rw [L2 (by omega)]
       simp [num]
       omega
theorem c1j (l:List LTarget) (hx:bdS 1048576 (U5 1048576) l):d8 Tryz.prog 175 [.val (.list 3 (l.map f9)),.val (.list 3 (l.map f9))] (.ret (.val (.bool true)) []) []:=by
 refine f7 mixed ok175 rfl (fun _=>rfl) ?_
 unfold ir175
 rw [b6]
 have hl:l.length≤1048576:=hx.1
 simp [d9,i6,j8,b8,d7,num]
 refine j9 (X:=Nat) (fun i=>⟨t6 [(0,.val (.list 3 (l.map f9))),(1,.val (.list 3 (l.map f9))),(5,.val (num i))],u1 []⟩) (fun i=>i≤l.length) (fun i=>l.length - i) 0 (Le.mk _ _ ?_ ?_) ?_ ?_
 · simp [upd,num,PV.kill]
 · simp
 · simp
 · intro i hi
   simp [num]
   refine f8 (fun h1=>?_) (fun h1=>?_)
   · have e1:(l.map f9)[i]?.getD .nilptr=f9 l[i]:=by simp [List.getElem?_eq_getElem h1]
     simp [num,h1,e1,f9,tx]
     refine b7 rfl rfl (.inl rfl) (b5f l[i] (hx.2 _ (List.getElem_mem h1))) ?_
     simp
     refine LoopNext.mk (i+1) (by omega) (by omega) (Le.mk _ _ ?_ ?_)
     · simp [num];exact wrap_i64 (by omega) (by omega)
     · simp
   · simp
theorem c70 (x:LGroup) (left:Int) (h0:0≤left) (h1:left≤1048576) (hx:a11 9223372036854775807 x):d8 Tryz.prog 102 [.val (M0 x),.val (num left)] (.ret (.val (num (cut left (a3o x)))) []) []:=by
 refine f7 mixed ok102 rfl (fun _=>rfl) ?_
 unfold ir102
 rw [b6]
 unfold a11 at hx
 obtain ⟨b0,b1⟩:=hx
 unfold a3o
 have w0:IntKind.i64.wrap (left - ((x.name.length:Nat):Int))=left - ((x.name.length:Nat):Int):=wrap_i64 (by omega) (by omega)
 by_cases k0:left - ((x.name.length:Nat):Int) < 0
 · rw [l6 (by omega)]
   simp [d9,i6,j8,b8,d7,M0,tx,num,b9,i7,w0,k0]
 · simp [d9,i6,j8,b8,d7,M0,tx,num,b9,i7,w0,k0]
   refine b7 rfl rfl (.inl rfl) (c1g x.targets (left - (x.name.length:Nat)) (by omega) (by omega) b1) ?_
   by_cases k1:(left - (x.name.length:Nat)) - ((zS S3 x.targets:Nat):Int) < 0
   · first | rw [l6 (by omega),l6 (by omega)] | rw [l6 (by omega)]
     simp [M0,tx,num,b9,i7]
   · first | rw [L2 (by omega),L2 (by omega)] | rw [L2 (by omega)]
     simp [M0,tx,num,b9,i7,k0,k1]
     try omega
theorem c77 (x:LGroup) (hx:a11 1048576 x):d8 Tryz.prog 138 [.val (M0 x),.val (M0 x)] (.ret (.val (.bool true)) []) []:=by
 refine f7 mixed ok138 rfl (fun _=>rfl) ?_
 unfold ir138
 rw [b6]
 unfold a11 at hx
 obtain ⟨b0,b1⟩:=hx
 simp [d9,i6,j8,b8,d7,M0,tx,num,i7]
 refine b7 rfl rfl (.inl rfl) (c1j x.targets b1) ?_
 simp [M0,tx,num,i7]
end Go.Proofs
end
section
namespace Go.Proofs
open Go.PW Go.KP
attribute [local simp] RV.cells RV.one PV.cells PV.solid PV.one G4 i7 L9 L6 RV.ofCells elems PV.killL
variable [GF]
theorem d01 (l:List Int) (left:Int) (h0:0≤left) (h1:left≤1048576) (hl:l.length≤9223372036854775807):d8 Tryz.prog 106 [.val (.list 1 (l.map num)),.val (num left)] (.ret (.val (num (cut left l.length))) []) []:=by
 refine f7 mixed ok106 rfl (fun _=>rfl) ?_
 unfold ir106
 rw [b6]
 have hw:IntKind.i64.wrap (left - (l.length:Int))=left - l.length:=wrap_i64 (by omega) (by omega)
 by_cases h:left - (l.length:Int) < 0
 · rw [l6 (by omega)]
   simp [d9,i6,j8,b8,d7,num,hw,h]
 · rw [L2 (by omega)]
   simp [d9,i6,j8,b8,d7,num,hw,h]
theorem c1l (l:List Int) (hx:l.length≤1048576):d8 Tryz.prog 24 [.val (.list 1 (l.map num)),.val (.list 1 (l.map num))] (.ret (.val (.bool true)) []) []:=by
 refine f7 mixed ok24 rfl (fun _=>rfl) ?_
 unfold ir24
 rw [b6]
 have hl:l.length≤1048576:=hx
 simp [d9,i6,j8,b8,d7,num]
 refine j9 (X:=Nat) (fun i=>⟨t6 [(0,.val (.list 1 (l.map num))),(1,.val (.list 1 (l.map num))),(5,.val (num i))],u1 []⟩) (fun i=>i≤l.length) (fun i=>l.length - i) 0 (Le.mk _ _ ?_ ?_) ?_ ?_
 · simp [upd,num,PV.kill]
 · simp
 · simp
 · intro i hi
   simp [num]
   refine f8 (fun h1=>?_) (fun h1=>?_)
   · have e1:(l.map num)[i]?.getD .nilptr=num l[i]:=by simp [List.getElem?_eq_getElem h1]
     simp [num,h1,e1,tx]
     refine LoopNext.mk (i+1) (by omega) (by omega) (Le.mk _ _ ?_ ?_)
     · simp [num];exact wrap_i64 (by omega) (by omega)
     · simp
   · simp
theorem c4j (x:LReport) (left:Int) (h0:0≤left) (h1:left≤1048576) (hx:X4 9223372036854775807 x):d8 Tryz.prog 190 [.val (j4 x),.val (num left)] (.ret (.val (num (cut left (R6 x)))) []) []:=by
 refine f7 mixed ok190 rfl (fun _=>rfl) ?_
 unfold ir190
 rw [b6]
 unfold X4 at hx
 have b0:=hx
 unfold R6
 have w0:IntKind.i64.wrap (left - ((x.body.length:Nat):Int))=left - ((x.body.length:Nat):Int):=wrap_i64 (by omega) (by omega)
 by_cases k0:left - ((x.body.length:Nat):Int) < 0
 · rw [l6 (by omega)]
   simp [d9,i6,j8,b8,d7,j4,tx,num,b9,i7,w0,k0]
 · rw [L2 (by omega)]
   simp [d9,i6,j8,b8,d7,j4,tx,num,b9,i7,w0,k0]
   try omega
theorem c4i (x:LReport) (hx:X4 1048576 x):d8 Tryz.prog 195 [.val (j4 x)] (.ret (.val (j4 x)) []) []:=by
 refine f7 mixed ok195 rfl (fun _=>rfl) ?_
 unfold ir195
 rw [b6]
 unfold X4 at hx
 have b0:=hx
 simp [d9,i6,j8,b8,d7,j4,tx,num,i7]
 refine (b73 (id:=2) (n:=4) (rs:=[num x.id,num x.born,num x.tries,tx x.body]) ?_ ?_ rfl (by omega)).trans ?_
 · simp
 · simp [tx,num]
 · simp [j4,tx,num,i7]
theorem c4m (x:LReport) (hx:X4 1048576 x):d8 Tryz.prog 208 [.val (j4 x),.val (j4 x)] (.ret (.val (.bool true)) []) []:=by
 refine f7 mixed ok208 rfl (fun _=>rfl) ?_
 unfold ir208
 rw [b6]
 unfold X4 at hx
 have b0:=hx
 simp [d9,i6,j8,b8,d7,j4,tx,num,i7]
theorem c1h (l:List LReport) (left:Int) (h0:0≤left) (h1:left≤1048576) (hx:bdS 9223372036854775807 (X4 9223372036854775807) l):d8 Tryz.prog 146 [.val (.list 4 (l.map j4)),.val (num left)] (.ret (.val (num (cut left (zS R6 l)))) []) []:=by
 refine f7 mixed ok146 rfl (fun _=>rfl) ?_
 unfold ir146
 rw [b6]
 have hl:l.length≤9223372036854775807:=hx.1
 have hw:IntKind.i64.wrap (left - (l.length:Int))=left - l.length:=wrap_i64 (by omega) (by omega)
 have hzs:zS R6 l=l.length+G5 R6 l:=rfl
 by_cases h:left - (l.length:Int) < 0
 · rw [l6 (by omega)]
   simp [d9,i6,j8,b8,d7,num,hw,h]
 · simp [d9,i6,j8,b8,d7,num,hw,h]
   refine j9 (X:=Nat) (fun i=>⟨t6 [(0,.val (.list 4 (l.map j4))),(1,.val (num (left - l.length - (G5 R6 (l.take i):Nat)))),(5,.val (num i))],u1 []⟩) (fun i=>i≤l.length∧0≤left - l.length - (G5 R6 (l.take i):Nat)) (fun i=>l.length - i) 0 (Le.mk _ _ ?_ ?_) ?_ ?_
   · simp [upd,num,G5,PV.kill]
   · simp
   · simp [G5];omega
   · rintro i ⟨hi,hg⟩
     simp [num]
     refine f8 (fun h2=>?_) (fun h2=>?_)
     · have e1:(l.map j4)[i]?.getD .nilptr=j4 l[i]:=by simp [List.getElem?_eq_getElem h2]
       have hsn:G5 R6 (l.take (i+1))=G5 R6 (l.take i)+R6 l[i]:=a09 _ h2
       have hle:=a32 (f:=R6) l (i+1)
       simp [num,h2,e1,j4,tx]
       refine b7 rfl rfl (.inl rfl) (c4j l[i] (left - l.length - (G5 R6 (l.take i):Nat)) (by omega) (by omega) (hx.2 _ (List.getElem_mem h2))) ?_
       by_cases h3:left - (l.length:Int) - (G5 R6 (l.take i):Int) - (R6 l[i]:Int) < 0
       · have c1:cut (left - l.length - (G5 R6 (l.take i):Nat)) (R6 l[i])=-1:=l6 (by omega)
         have c2:cut left (zS R6 l)=-1:=l6 (by omega)
         rw [c1,c2]
         simp [num]
       · have c1:cut (left - l.length - (G5 R6 (l.take i):Nat)) (R6 l[i])=left - l.length - (G5 R6 (l.take i):Nat) - (R6 l[i]:Nat):=L2 (by omega)
         rw [c1]
         simp [num,h3]
         refine LoopNext.mk (i+1) ⟨by omega,by omega⟩ (by omega) (Le.mk _ _ ?_ ?_)
         · simp [num]
           exact ⟨by omega,wrap_i64 (by omega) (by omega)⟩
         · simp
     · have e1:i=l.length:=by omega
       subst e1
       rw [List.take_length] at *
       rw [L2 (by omega)]
       simp [num]
       omega
theorem c1k (l:List LReport) (hx:bdS 1048576 (X4 1048576) l):d8 Tryz.prog 177 [.val (.list 4 (l.map j4)),.val (.list 4 (l.map j4))] (.ret (.val (.bool true)) []) []:=by
 refine f7 mixed ok177 rfl (fun _=>rfl) ?_
 unfold ir177
 rw [b6]
 have hl:l.length≤1048576:=hx.1
 simp [d9,i6,j8,b8,d7,num]
 refine j9 (X:=Nat) (fun i=>⟨t6 [(0,.val (.list 4 (l.map j4))),(1,.val (.list 4 (l.map j4))),(5,.val (num i))],u1 []⟩) (fun i=>i≤l.length) (fun i=>l.length - i) 0 (Le.mk _ _ ?_ ?_) ?_ ?_
 · simp [upd,num,PV.kill]
 · simp
 · simp
 · intro i hi
   simp [num]
   refine f8 (fun h1=>?_) (fun h1=>?_)
   · have e1:(l.map j4)[i]?.getD .nilptr=j4 l[i]:=by simp [List.getElem?_eq_getElem h1]
     simp [num,h1,e1,j4,tx]
     refine b7 rfl rfl (.inl rfl) (c4m l[i] (hx.2 _ (List.getElem_mem h1))) ?_
     simp
     refine LoopNext.mk (i+1) (by omega) (by omega) (Le.mk _ _ ?_ ?_)
     · simp [num];exact wrap_i64 (by omega) (by omega)
     · simp
   · simp
theorem c7y (x:LQueue) (left:Int) (h0:0≤left) (h1:left≤1048576) (hx:a2m 9223372036854775807 x):d8 Tryz.prog 104 [.val (K9 x),.val (num left)] (.ret (.val (num (cut left (a9u x)))) []) []:=by
 refine f7 mixed ok104 rfl (fun _=>rfl) ?_
 unfold ir104
 rw [b6]
 unfold a2m at hx
 obtain ⟨b0,b1⟩:=hx
 unfold a9u
 simp [d9,i6,j8,b8,d7,K9,tx,num,b9,i7]
 refine b7 rfl rfl (.inl rfl) (c1h x.items left (by omega) (by omega) b0) ?_
 by_cases k0:left - ((zS R6 x.items:Nat):Int) < 0
 · first | rw [l6 (by omega),l6 (by omega)] | rw [l6 (by omega)]
   simp [K9,tx,num,b9,i7]
 · rw [L2 (show ¬ left - ((zS R6 x.items:Nat):Int) < 0 by omega)]
   simp [K9,tx,num,b9,i7,k0]
   refine b7 rfl rfl (.inl rfl) (a77 x.recent (left - (zS R6 x.items:Nat)) (by omega) (by omega) b1) ?_
   by_cases k1:(left - (zS R6 x.items:Nat)) - ((zS List.length x.recent:Nat):Int) < 0
   · first | rw [l6 (by omega),l6 (by omega)] | rw [l6 (by omega)]
     simp [K9,tx,num,b9,i7]
   · first | rw [L2 (by omega),L2 (by omega)] | rw [L2 (by omega)]
     simp [K9,tx,num,b9,i7,k0,k1]
     try omega
theorem c73 (x:LQueue) (hx:a2m 1048576 x):d8 Tryz.prog 140 [.val (K9 x),.val (K9 x)] (.ret (.val (.bool true)) []) []:=by
 refine f7 mixed ok140 rfl (fun _=>rfl) ?_
 unfold ir140
 rw [b6]
 unfold a2m at hx
 obtain ⟨b0,b1⟩:=hx
 simp [d9,i6,j8,b8,d7,K9,tx,num,i7]
 refine b7 rfl rfl (.inl rfl) (c1k x.items b0) ?_
 simp [K9,tx,num,i7]
 refine b7 rfl rfl (.inl rfl) (a78 x.recent b1) ?_
 simp [K9,tx,num,i7]
theorem d00 (x:LPeer) (left:Int) (h0:0≤left) (h1:left≤1048576) (hx:a1c 9223372036854775807 x):d8 Tryz.prog 145 [.val (G1 x),.val (num left)] (.ret (.val (num (cut left (Z1 x)))) []) []:=by
 refine f7 mixed ok145 rfl (fun _=>rfl) ?_
 unfold ir145
 rw [b6]
 unfold a1c at hx
 have b0:=hx
 unfold Z1
 simp [d9,i6,j8,b8,d7,f9,G1,tx,num,b9,i7]
 refine b7 rfl rfl (.inl rfl) (b5e x.target left (by omega) (by omega) b0) ?_
 by_cases k0:left - ((S3 x.target:Nat):Int) < 0
 · first | rw [l6 (by omega),l6 (by omega)] | rw [l6 (by omega)]
   simp [f9,G1,tx,num,b9,i7]
 · first | rw [L2 (by omega),L2 (by omega)] | rw [L2 (by omega)]
   simp [f9,G1,tx,num,b9,i7,k0]
   try omega
theorem d0w (x:LPeer) (hx:a1c 1048576 x):d8 Tryz.prog 156 [.val (G1 x)] (.ret (.val (G1 x)) []) []:=by
 refine f7 mixed ok156 rfl (fun _=>rfl) ?_
 unfold ir156
 rw [b6]
 unfold a1c at hx
 have b0:=hx
 simp [d9,i6,j8,b8,d7,f9,G1,tx,num,i7]
 refine b7 rfl rfl (.inl rfl) (b5c x.target b0) ?_
 simp [f9,G1,tx,num,i7]
 refine (b73 (id:=2) (n:=6) (rs:=[tx x.target.url,num x.target.prio,num x.target.weight,num x.fails,num x.retry,.bool x.gone]) ?_ ?_ rfl (by omega)).trans ?_
 · simp
 · simp [tx,num]
 · simp [f9,G1,tx,num,i7]
theorem d05 (x:LPeer) (hx:a1c 1048576 x):d8 Tryz.prog 176 [.val (G1 x),.val (G1 x)] (.ret (.val (.bool true)) []) []:=by
 refine f7 mixed ok176 rfl (fun _=>rfl) ?_
 unfold ir176
 rw [b6]
 unfold a1c at hx
 have b0:=hx
 simp [d9,i6,j8,b8,d7,f9,G1,tx,num,i7]
 refine b7 rfl rfl (.inl rfl) (b5f x.target b0) ?_
 simp [f9,G1,tx,num,i7]
theorem c7z (l:List LPeer) (left:Int) (h0:0≤left) (h1:left≤1048576) (hx:bdS 9223372036854775807 (a1c 9223372036854775807) l):d8 Tryz.prog 103 [.val (.list 6 (l.map G1)),.val (num left)] (.ret (.val (num (cut left (zS Z1 l)))) []) []:=by
 refine f7 mixed ok103 rfl (fun _=>rfl) ?_
 unfold ir103
 rw [b6]
 have hl:l.length≤9223372036854775807:=hx.1
 have hw:IntKind.i64.wrap (left - (l.length:Int))=left - l.length:=wrap_i64 (by omega) (by omega)
 have hzs:zS Z1 l=l.length+G5 Z1 l:=rfl
 by_cases h:left - (l.length:Int) < 0
 · rw [l6 (by omega)]
   simp [d9,i6,j8,b8,d7,num,hw,h]
 · simp [d9,i6,j8,b8,d7,num,hw,h]
   refine j9 (X:=Nat) (fun i=>⟨t6 [(0,.val (.list 6 (l.map G1))),(1,.val (num (left - l.length - (G5 Z1 (l.take i):Nat)))),(5,.val (num i))],u1 []⟩) (fun i=>i≤l.length∧0≤left - l.length - (G5 Z1 (l.take i):Nat)) (fun i=>l.length - i) 0 (Le.mk _ _ ?_ ?_) ?_ ?_
   · simp [upd,num,G5,PV.kill]
   · simp
   · simp [G5];omega
   · rintro i ⟨hi,hg⟩
     simp [num]
     refine f8 (fun h2=>?_) (fun h2=>?_)
     · have e1:(l.map G1)[i]?.getD .nilptr=G1 l[i]:=by simp [List.getElem?_eq_getElem h2]
       have hsn:G5 Z1 (l.take (i+1))=G5 Z1 (l.take i)+Z1 l[i]:=a09 _ h2
       have hle:=a32 (f:=Z1) l (i+1)
       simp [num,h2,e1,f9,G1,tx]
       refine b7 rfl rfl (.inl rfl) (d00 l[i] (left - l.length - (G5 Z1 (l.take i):Nat)) (by omega) (by omega) (hx.2 _ (List.getElem_mem h2))) ?_
       by_cases h3:left - (l.length:Int) - (G5 Z1 (l.take i):Int) - (Z1 l[i]:Int) < 0
       · have c1:cut (left - l.length - (G5 Z1 (l.take i):Nat)) (Z1 l[i])=-1:=l6 (by omega)
         have c2:cut left (zS Z1 l)=-1:=l6 (by omega)
         rw [c1,c2]
         simp [num]
       · have c1:cut (left - l.length - (G5 Z1 (l.take i):Nat)) (Z1 l[i])=left - l.length - (G5 Z1 (l.take i):Nat) - (Z1 l[i]:Nat):=L2 (by omega)
         rw [c1]
         simp [num,h3]
         refine LoopNext.mk (i+1) ⟨by omega,by omega⟩ (by omega) (Le.mk _ _ ?_ ?_)
         · simp [num]
           exact ⟨by omega,wrap_i64 (by omega) (by omega)⟩
         · simp
     · have e1:i=l.length:=by omega
       subst e1
       rw [List.take_length] at *
       rw [L2 (by omega)]
       simp [num]
       omega
theorem c74 (l:List LPeer) (hx:bdS 1048576 (a1c 1048576) l):d8 Tryz.prog 139 [.val (.list 6 (l.map G1)),.val (.list 6 (l.map G1))] (.ret (.val (.bool true)) []) []:=by
 refine f7 mixed ok139 rfl (fun _=>rfl) ?_
 unfold ir139
 rw [b6]
 have hl:l.length≤1048576:=hx.1
 simp [d9,i6,j8,b8,d7,num]
 refine j9 (X:=Nat) (fun i=>⟨t6 [(0,.val (.list 6 (l.map G1))),(1,.val (.list 6 (l.map G1))),(5,.val (num i))],u1 []⟩) (fun i=>i≤l.length) (fun i=>l.length - i) 0 (Le.mk _ _ ?_ ?_) ?_ ?_
 · simp [upd,num,PV.kill]
 · simp
 · simp
 · intro i hi
   simp [num]
   refine f8 (fun h1=>?_) (fun h1=>?_)
   · have e1:(l.map G1)[i]?.getD .nilptr=G1 l[i]:=by simp [List.getElem?_eq_getElem h1]
     simp [num,h1,e1,f9,G1,tx]
     refine b7 rfl rfl (.inl rfl) (d05 l[i] (hx.2 _ (List.getElem_mem h1))) ?_
     simp
     refine LoopNext.mk (i+1) (by omega) (by omega) (Le.mk _ _ ?_ ?_)
     · simp [num];exact wrap_i64 (by omega) (by omega)
     · simp
   · simp
theorem c1i (x:LChannel) (left:Int) (h0:0≤left) (h1:left≤1048576) (hx:R1 9223372036854775807 x):d8 Tryz.prog 67 [.val (j7 x),.val (num left)] (.ret (.val (num (cut left (L5 x)))) []) []:=by
 refine f7 mixed ok67 rfl (fun _=>rfl) ?_
 unfold ir67
 rw [b6]
 unfold R1 at hx
 obtain ⟨b0,b1,b2⟩:=hx
 unfold L5
 simp [d9,i6,j8,b8,d7,M0,K9,j7,tx,num,b9,i7]
 refine b7 rfl rfl (.inl rfl) (c70 x.group left (by omega) (by omega) b0) ?_
 by_cases k0:left - ((a3o x.group:Nat):Int) < 0
 · first | rw [l6 (by omega),l6 (by omega)] | rw [l6 (by omega)]
   simp [M0,K9,j7,tx,num,b9,i7]
 · rw [L2 (show ¬ left - ((a3o x.group:Nat):Int) < 0 by omega)]
   simp [M0,K9,j7,tx,num,b9,i7,k0]
   refine b7 rfl rfl (.inl rfl) (c7z x.peers (left - (a3o x.group:Nat)) (by omega) (by omega) b1) ?_
   by_cases k1:(left - (a3o x.group:Nat)) - ((zS Z1 x.peers:Nat):Int) < 0
   · first | rw [l6 (by omega),l6 (by omega)] | rw [l6 (by omega)]
     simp [M0,K9,j7,tx,num,b9,i7]
   · rw [L2 (show ¬ (left - (a3o x.group:Nat)) - ((zS Z1 x.peers:Nat):Int) < 0 by omega)]
     simp [M0,K9,j7,tx,num,b9,i7,k0,k1]
     refine b7 rfl rfl (.inl rfl) (c7y x.queue (left - (a3o x.group:Nat) - (zS Z1 x.peers:Nat)) (by omega) (by omega) b2) ?_
     by_cases k2:(left - (a3o x.group:Nat) - (zS Z1 x.peers:Nat)) - ((a9u x.queue:Nat):Int) < 0
     · first | rw [l6 (by omega),l6 (by omega)] | rw [l6 (by omega)]
       simp [M0,K9,j7,tx,num,b9,i7]
     · first | rw [L2 (by omega),L2 (by omega)] | rw [L2 (by omega)]
       simp [M0,K9,j7,tx,num,b9,i7,k0,k1,k2]
       try omega
theorem c1m (x:LChannel) (hx:R1 1048576 x):d8 Tryz.prog 87 [.val (j7 x),.val (j7 x)] (.ret (.val (.bool true)) []) []:=by
 refine f7 mixed ok87 rfl (fun _=>rfl) ?_
 unfold ir87
 rw [b6]
 unfold R1 at hx
 obtain ⟨b0,b1,b2⟩:=hx
 simp [d9,i6,j8,b8,d7,M0,K9,j7,tx,num,i7]
 refine b7 rfl rfl (.inl rfl) (c77 x.group b0) ?_
 simp [M0,K9,j7,tx,num,i7]
 refine b7 rfl rfl (.inl rfl) (c74 x.peers b1) ?_
 simp [M0,K9,j7,tx,num,i7]
 refine b7 rfl rfl (.inl rfl) (c73 x.queue b2) ?_
 simp [M0,K9,j7,tx,num,i7]
theorem b85 (l:List LChannel) (left:Int) (h0:0≤left) (h1:left≤1048576) (hx:bdS 9223372036854775807 (R1 9223372036854775807) l):d8 Tryz.prog 31 [.val (.list 6 (l.map j7)),.val (num left)] (.ret (.val (num (cut left (zS L5 l)))) []) []:=by
 refine f7 mixed ok31 rfl (fun _=>rfl) ?_
 unfold ir31
 rw [b6]
 have hl:l.length≤9223372036854775807:=hx.1
 have hw:IntKind.i64.wrap (left - (l.length:Int))=left - l.length:=wrap_i64 (by omega) (by omega)
 have hzs:zS L5 l=l.length+G5 L5 l:=rfl
 by_cases h:left - (l.length:Int) < 0
 · rw [l6 (by omega)]
   simp [d9,i6,j8,b8,d7,num,hw,h]
 · simp [d9,i6,j8,b8,d7,num,hw,h]
   refine j9 (X:=Nat) (fun i=>⟨t6 [(0,.val (.list 6 (l.map j7))),(1,.val (num (left - l.length - (G5 L5 (l.take i):Nat)))),(5,.val (num i))],u1 []⟩) (fun i=>i≤l.length∧0≤left - l.length - (G5 L5 (l.take i):Nat)) (fun i=>l.length - i) 0 (Le.mk _ _ ?_ ?_) ?_ ?_
   · simp [upd,num,G5,PV.kill]
   · simp
   · simp [G5];omega
   · rintro i ⟨hi,hg⟩
     simp [num]
     refine f8 (fun h2=>?_) (fun h2=>?_)
     · have e1:(l.map j7)[i]?.getD .nilptr=j7 l[i]:=by simp [List.getElem?_eq_getElem h2]
       have hsn:G5 L5 (l.take (i+1))=G5 L5 (l.take i)+L5 l[i]:=a09 _ h2
       have hle:=a32 (f:=L5) l (i+1)
       simp [num,h2,e1,M0,K9,j7,tx]
       refine b7 rfl rfl (.inl rfl) (c1i l[i] (left - l.length - (G5 L5 (l.take i):Nat)) (by omega) (by omega) (hx.2 _ (List.getElem_mem h2))) ?_
       by_cases h3:left - (l.length:Int) - (G5 L5 (l.take i):Int) - (L5 l[i]:Int) < 0
       · have c1:cut (left - l.length - (G5 L5 (l.take i):Nat)) (L5 l[i])=-1:=l6 (by omega)
         have c2:cut left (zS L5 l)=-1:=l6 (by omega)
         rw [c1,c2]
         simp [num]
       · have c1:cut (left - l.length - (G5 L5 (l.take i):Nat)) (L5 l[i])=left - l.length - (G5 L5 (l.take i):Nat) - (L5 l[i]:Nat):=L2 (by omega)
         rw [c1]
         simp [num,h3]
         refine LoopNext.mk (i+1) ⟨by omega,by omega⟩ (by omega) (Le.mk _ _ ?_ ?_)
         · simp [num]
           exact ⟨by omega,wrap_i64 (by omega) (by omega)⟩
         · simp
     · have e1:i=l.length:=by omega
       subst e1
       rw [List.take_length] at *
       rw [L2 (by omega)]
       simp [num]
       omega
theorem b86 (l:List LChannel) (hx:bdS 1048576 (R1 1048576) l):d8 Tryz.prog 43 [.val (.list 6 (l.map j7)),.val (.list 6 (l.map j7))] (.ret (.val (.bool true)) []) []:=by
 refine f7 mixed ok43 rfl (fun _=>rfl) ?_
 unfold ir43
 rw [b6]
 have hl:l.length≤1048576:=hx.1
 simp [d9,i6,j8,b8,d7,num]
 refine j9 (X:=Nat) (fun i=>⟨t6 [(0,.val (.list 6 (l.map j7))),(1,.val (.list 6 (l.map j7))),(5,.val (num i))],u1 []⟩) (fun i=>i≤l.length) (fun i=>l.length - i) 0 (Le.mk _ _ ?_ ?_) ?_ ?_
 · simp [upd,num,PV.kill]
 · simp
 · simp
 · intro i hi
   simp [num]
   refine f8 (fun h1=>?_) (fun h1=>?_)
   · have e1:(l.map j7)[i]?.getD .nilptr=j7 l[i]:=by simp [List.getElem?_eq_getElem h1]
     simp [num,h1,e1,M0,K9,j7,tx]
     refine b7 rfl rfl (.inl rfl) (c1m l[i] (hx.2 _ (List.getElem_mem h1))) ?_
     simp
     refine LoopNext.mk (i+1) (by omega) (by omega) (Le.mk _ _ ?_ ?_)
     · simp [num];exact wrap_i64 (by omega) (by omega)
     · simp
   · simp
theorem c4l (l:List LEntry) (left:Int) (h0:0≤left) (h1:left≤1048576) (hl:l.length≤9223372036854775807):d8 Tryz.prog 33 [.val (.list 3 (l.map A2)),.val (num left)] (.ret (.val (num (cut left l.length))) []) []:=by
 refine f7 mixed ok33 rfl (fun _=>rfl) ?_
 unfold ir33
 rw [b6]
 have hw:IntKind.i64.wrap (left - (l.length:Int))=left - l.length:=wrap_i64 (by omega) (by omega)
 by_cases h:left - (l.length:Int) < 0
 · rw [l6 (by omega)]
   simp [d9,i6,j8,b8,d7,num,hw,h]
 · rw [L2 (by omega)]
   simp [d9,i6,j8,b8,d7,num,hw,h]
theorem c7v (x:LEntry) (hx:b1k 1048576 x):d8 Tryz.prog 78 [.val (A2 x)] (.ret (.val (A2 x)) []) []:=by
 refine f7 mixed ok78 rfl (fun _=>rfl) ?_
 unfold ir78
 rw [b6]
 simp [d9,i6,j8,b8,d7,A2,tx,num,i7]
 refine (b73 (id:=2) (n:=3) (rs:=[num x.kind,num x.id,num x.at_]) ?_ ?_ rfl (by omega)).trans ?_
 · simp
 · simp [tx,num]
 · simp [A2,tx,num,i7]
theorem c78 (x:LEntry) (hx:b1k 1048576 x):d8 Tryz.prog 52 [.val (A2 x),.val (A2 x)] (.ret (.val (.bool true)) []) []:=by
 refine f7 mixed ok52 rfl (fun _=>rfl) ?_
 unfold ir52
 rw [b6]
 simp [d9,i6,j8,b8,d7,A2,tx,num,i7]
theorem c4o (l:List LEntry) (hx:l.length≤1048576):d8 Tryz.prog 18 [.val (.list 3 (l.map A2)),.val (.list 3 (l.map A2))] (.ret (.val (.bool true)) []) []:=by
 refine f7 mixed ok18 rfl (fun _=>rfl) ?_
 unfold ir18
 rw [b6]
 have hl:l.length≤1048576:=hx
 simp [d9,i6,j8,b8,d7,num]
 refine j9 (X:=Nat) (fun i=>⟨t6 [(0,.val (.list 3 (l.map A2))),(1,.val (.list 3 (l.map A2))),(5,.val (num i))],u1 []⟩) (fun i=>i≤l.length) (fun i=>l.length - i) 0 (Le.mk _ _ ?_ ?_) ?_ ?_
 · simp [upd,num,PV.kill]
 · simp
 · simp
 · intro i hi
   simp [num]
   refine f8 (fun h1=>?_) (fun h1=>?_)
   · have e1:(l.map A2)[i]?.getD .nilptr=A2 l[i]:=by simp [List.getElem?_eq_getElem h1]
     simp [num,h1,e1,A2,tx]
     refine b7 rfl rfl (.inl rfl) (c78 l[i] trivial) ?_
     simp
     refine LoopNext.mk (i+1) (by omega) (by omega) (Le.mk _ _ ?_ ?_)
     · simp [num];exact wrap_i64 (by omega) (by omega)
     · simp
   · simp
theorem d0x (x:LWire) (left:Int) (h0:0≤left) (h1:left≤1048576) (hx:Z3 9223372036854775807 x):d8 Tryz.prog 70 [.val (H7 x),.val (num left)] (.ret (.val (num (cut left (Z8 x)))) []) []:=by
 refine f7 mixed ok70 rfl (fun _=>rfl) ?_
 unfold ir70
 rw [b6]
 unfold Z3 at hx
 obtain ⟨b0,b1,b2,b3⟩:=hx
 unfold Z8
 have w0:IntKind.i64.wrap (left - ((x.group.length:Nat):Int))=left - ((x.group.length:Nat):Int):=wrap_i64 (by omega) (by omega)
 by_cases k0:left - ((x.group.length:Nat):Int) < 0
 · rw [l6 (by omega)]
   simp [d9,i6,j8,b8,d7,H7,tx,num,b9,i7,w0,k0]
 · skip
   have w1:IntKind.i64.wrap ((left - (x.group.length:Nat)) - ((x.url.length:Nat):Int))=(left - (x.group.length:Nat)) - ((x.url.length:Nat):Int):=wrap_i64 (by omega) (by omega)
   by_cases k1:(left - (x.group.length:Nat)) - ((x.url.length:Nat):Int) < 0
   · rw [l6 (by omega)]
     simp [d9,i6,j8,b8,d7,H7,tx,num,b9,i7,w0,w1,k0,k1]
   · simp [d9,i6,j8,b8,d7,H7,tx,num,b9,i7,w0,w1,k0,k1]
     refine b7 rfl rfl (.inl rfl) (d01 x.ids (left - (x.group.length:Nat) - (x.url.length:Nat)) (by omega) (by omega) b2) ?_
     by_cases k2:(left - (x.group.length:Nat) - (x.url.length:Nat)) - ((x.ids.length:Nat):Int) < 0
     · first | rw [l6 (by omega),l6 (by omega)] | rw [l6 (by omega)]
       simp [H7,tx,num,b9,i7]
     · rw [L2 (show ¬ (left - (x.group.length:Nat) - (x.url.length:Nat)) - ((x.ids.length:Nat):Int) < 0 by omega)]
       simp [H7,tx,num,b9,i7,k0,k1,k2]
       have w3:IntKind.i64.wrap ((left - (x.group.length:Nat) - (x.url.length:Nat) - (x.ids.length:Nat)) - ((x.body.length:Nat):Int))=(left - (x.group.length:Nat) - (x.url.length:Nat) - (x.ids.length:Nat)) - ((x.body.length:Nat):Int):=wrap_i64 (by omega) (by omega)
       by_cases k3:(left - (x.group.length:Nat) - (x.url.length:Nat) - (x.ids.length:Nat)) - ((x.body.length:Nat):Int) < 0
       · rw [l6 (by omega)]
         simp [H7,tx,num,b9,i7,w0,w1,w3,k0,k1,k2,k3]
       · rw [L2 (by omega)]
         simp [H7,tx,num,b9,i7,w0,w1,w3,k0,k1,k2,k3]
         try omega
theorem d02 (x:LWire) (hx:Z3 1048576 x):d8 Tryz.prog 90 [.val (H7 x),.val (H7 x)] (.ret (.val (.bool true)) []) []:=by
 refine f7 mixed ok90 rfl (fun _=>rfl) ?_
 unfold ir90
 rw [b6]
 unfold Z3 at hx
 obtain ⟨b0,b1,b2,b3⟩:=hx
 simp [d9,i6,j8,b8,d7,H7,tx,num,i7]
 refine b7 rfl rfl (.inl rfl) (c1l x.ids b2) ?_
 simp [H7,tx,num,i7]
theorem c7w (l:List LWire) (left:Int) (h0:0≤left) (h1:left≤1048576) (hx:bdS 9223372036854775807 (Z3 9223372036854775807) l):d8 Tryz.prog 34 [.val (.list 7 (l.map H7)),.val (num left)] (.ret (.val (num (cut left (zS Z8 l)))) []) []:=by
 refine f7 mixed ok34 rfl (fun _=>rfl) ?_
 unfold ir34
 rw [b6]
 have hl:l.length≤9223372036854775807:=hx.1
 have hw:IntKind.i64.wrap (left - (l.length:Int))=left - l.length:=wrap_i64 (by omega) (by omega)
 have hzs:zS Z8 l=l.length+G5 Z8 l:=rfl
 by_cases h:left - (l.length:Int) < 0
 · rw [l6 (by omega)]
   simp [d9,i6,j8,b8,d7,num,hw,h]
 · simp [d9,i6,j8,b8,d7,num,hw,h]
   refine j9 (X:=Nat) (fun i=>⟨t6 [(0,.val (.list 7 (l.map H7))),(1,.val (num (left - l.length - (G5 Z8 (l.take i):Nat)))),(5,.val (num i))],u1 []⟩) (fun i=>i≤l.length∧0≤left - l.length - (G5 Z8 (l.take i):Nat)) (fun i=>l.length - i) 0 (Le.mk _ _ ?_ ?_) ?_ ?_
   · simp [upd,num,G5,PV.kill]
   · simp
   · simp [G5];omega
   · rintro i ⟨hi,hg⟩
     simp [num]
     refine f8 (fun h2=>?_) (fun h2=>?_)
     · have e1:(l.map H7)[i]?.getD .nilptr=H7 l[i]:=by simp [List.getElem?_eq_getElem h2]
       have hsn:G5 Z8 (l.take (i+1))=G5 Z8 (l.take i)+Z8 l[i]:=a09 _ h2
       have hle:=a32 (f:=Z8) l (i+1)
       simp [num,h2,e1,H7,tx]
       refine b7 rfl rfl (.inl rfl) (d0x l[i] (left - l.length - (G5 Z8 (l.take i):Nat)) (by omega) (by omega) (hx.2 _ (List.getElem_mem h2))) ?_
       by_cases h3:left - (l.length:Int) - (G5 Z8 (l.take i):Int) - (Z8 l[i]:Int) < 0
       · have c1:cut (left - l.length - (G5 Z8 (l.take i):Nat)) (Z8 l[i])=-1:=l6 (by omega)
         have c2:cut left (zS Z8 l)=-1:=l6 (by omega)
         rw [c1,c2]
         simp [num]
       · have c1:cut (left - l.length - (G5 Z8 (l.take i):Nat)) (Z8 l[i])=left - l.length - (G5 Z8 (l.take i):Nat) - (Z8 l[i]:Nat):=L2 (by omega)
         rw [c1]
         simp [num,h3]
         refine LoopNext.mk (i+1) ⟨by omega,by omega⟩ (by omega) (Le.mk _ _ ?_ ?_)
         · simp [num]
           exact ⟨by omega,wrap_i64 (by omega) (by omega)⟩
         · simp
     · have e1:i=l.length:=by omega
       subst e1
       rw [List.take_length] at *
       rw [L2 (by omega)]
       simp [num]
       omega
theorem c71 (l:List LWire) (hx:bdS 1048576 (Z3 1048576) l):d8 Tryz.prog 45 [.val (.list 7 (l.map H7)),.val (.list 7 (l.map H7))] (.ret (.val (.bool true)) []) []:=by
 refine f7 mixed ok45 rfl (fun _=>rfl) ?_
 unfold ir45
 rw [b6]
 have hl:l.length≤1048576:=hx.1
 simp [d9,i6,j8,b8,d7,num]
 refine j9 (X:=Nat) (fun i=>⟨t6 [(0,.val (.list 7 (l.map H7))),(1,.val (.list 7 (l.map H7))),(5,.val (num i))],u1 []⟩) (fun i=>i≤l.length) (fun i=>l.length - i) 0 (Le.mk _ _ ?_ ?_) ?_ ?_
 · simp [upd,num,PV.kill]
 · simp
 · simp
 · intro i hi
   simp [num]
   refine f8 (fun h1=>?_) (fun h1=>?_)
   · have e1:(l.map H7)[i]?.getD .nilptr=H7 l[i]:=by simp [List.getElem?_eq_getElem h1]
     simp [num,h1,e1,H7,tx]
     refine b7 rfl rfl (.inl rfl) (d02 l[i] (hx.2 _ (List.getElem_mem h1))) ?_
     simp
     refine LoopNext.mk (i+1) (by omega) (by omega) (Le.mk _ _ ?_ ?_)
     · simp [num];exact wrap_i64 (by omega) (by omega)
     · simp
   · simp
theorem d0z (x:LPipe) (left:Int) (h0:0≤left) (h1:left≤1048576) (hx:Z4 9223372036854775807 x):d8 Tryz.prog 9 [.val (G2 x),.val (num left)] (.ret (.val (num (cut left (b3z x)))) []) []:=by
 refine f7 mixed ok9 rfl (fun _=>rfl) ?_
 unfold ir9
 rw [b6]
 unfold Z4 at hx
 obtain ⟨b0,b1,b2,b3⟩:=hx
 unfold b3z
 simp [d9,i6,j8,b8,d7,w8,G2,tx,num,b9,i7]
 refine b7 rfl rfl (.inl rfl) (b85 x.channels left (by omega) (by omega) b0) ?_
 by_cases k0:left - ((zS L5 x.channels:Nat):Int) < 0
 · first | rw [l6 (by omega),l6 (by omega)] | rw [l6 (by omega)]
   simp [w8,G2,tx,num,b9,i7]
 · rw [L2 (show ¬ left - ((zS L5 x.channels:Nat):Int) < 0 by omega)]
   simp [w8,G2,tx,num,b9,i7,k0]
   refine b7 rfl rfl (.inl rfl) (c4k x.policy (left - (zS L5 x.channels:Nat)) (by omega) (by omega) b1) ?_
   by_cases k1:(left - (zS L5 x.channels:Nat)) - ((a1u x.policy:Nat):Int) < 0
   · first | rw [l6 (by omega),l6 (by omega)] | rw [l6 (by omega)]
     simp [w8,G2,tx,num,b9,i7]
   · rw [L2 (show ¬ (left - (zS L5 x.channels:Nat)) - ((a1u x.policy:Nat):Int) < 0 by omega)]
     simp [w8,G2,tx,num,b9,i7,k0,k1]
     refine b7 rfl rfl (.inl rfl) (c4l x.log (left - (zS L5 x.channels:Nat) - (a1u x.policy:Nat)) (by omega) (by omega) b2) ?_
     by_cases k2:(left - (zS L5 x.channels:Nat) - (a1u x.policy:Nat)) - ((x.log.length:Nat):Int) < 0
     · first | rw [l6 (by omega),l6 (by omega)] | rw [l6 (by omega)]
       simp [w8,G2,tx,num,b9,i7]
     · rw [L2 (show ¬ (left - (zS L5 x.channels:Nat) - (a1u x.policy:Nat)) - ((x.log.length:Nat):Int) < 0 by omega)]
       simp [w8,G2,tx,num,b9,i7,k0,k1,k2]
       refine b7 rfl rfl (.inl rfl) (c7w x.wires (left - (zS L5 x.channels:Nat) - (a1u x.policy:Nat) - (x.log.length:Nat)) (by omega) (by omega) b3) ?_
       by_cases k3:(left - (zS L5 x.channels:Nat) - (a1u x.policy:Nat) - (x.log.length:Nat)) - ((zS Z8 x.wires:Nat):Int) < 0
       · first | rw [l6 (by omega),l6 (by omega)] | rw [l6 (by omega)]
         simp [w8,G2,tx,num,b9,i7]
       · first | rw [L2 (by omega),L2 (by omega)] | rw [L2 (by omega)]
         simp [w8,G2,tx,num,b9,i7,k0,k1,k2,k3]
         try omega
theorem d04 (x:LPipe) (hx:Z4 1048576 x):d8 Tryz.prog 13 [.val (G2 x),.val (G2 x)] (.ret (.val (.bool true)) []) []:=by
 refine f7 mixed ok13 rfl (fun _=>rfl) ?_
 unfold ir13
 rw [b6]
 unfold Z4 at hx
 obtain ⟨b0,b1,b2,b3⟩:=hx
 simp [d9,i6,j8,b8,d7,w8,G2,tx,num,i7]
 refine b7 rfl rfl (.inl rfl) (b86 x.channels b0) ?_
 simp [w8,G2,tx,num,i7]
 refine b7 rfl rfl (.inl rfl) (c4n x.policy b1) ?_
 simp [w8,G2,tx,num,i7]
 refine b7 rfl rfl (.inl rfl) (c4o x.log b2) ?_
 simp [w8,G2,tx,num,i7]
 refine b7 rfl rfl (.inl rfl) (c71 x.wires b3) ?_
 simp [w8,G2,tx,num,i7]
end Go.Proofs
end
section
namespace Go.Proofs
open Go.PW Go.KP
attribute [local simp] RV.cells RV.one PV.cells PV.solid PV.one G4 i7 L9 L6 RV.ofCells elems PV.killL
variable [GF]
theorem b42 (r:LReport) (b1 b2 b3 b4:Bool) (h1:d8 Tryz.prog 56 [.val (.int .i64 r.id),.val (.int .i64 1),.val (.int .i64 1000000)] (.ret (.val (.bool b1)) []) []) (h2:d8 Tryz.prog 56 [.val (.int .i64 r.born),.val (.int .i64 0),.val (.int .i64 1000000)] (.ret (.val (.bool b2)) []) [])
 (h3:d8 Tryz.prog 56 [.val (.int .i64 r.tries),.val (.int .i64 0),.val (.int .i64 3)] (.ret (.val (.bool b3)) []) []) (h4:d8 Tryz.prog 56 [.val (.int .i64 r.body.length),.val (.int .i64 1),.val (.int .i64 8000)] (.ret (.val (.bool b4)) []) []) :
 d8 Tryz.prog 152 [.val (j4 r)] (.ret (.val (.bool (b1 && b2 && b3 && b4))) []) []:=by
 refine f7 mixed ok152 rfl (fun _=>rfl) ?_
 unfold ir152
 rw [b6]
 simp [d9,i6,j8,b8,d7,j4,tx,num,b9]
 refine b7 rfl rfl (.inl rfl) h1 ?_
 cases b1 with
 | false=>simp
 | true=>
  simp [num,b9]
  refine b7 rfl rfl (.inl rfl) h2 ?_
  cases b2 with
  | false=>simp
  | true=>
   simp [num,b9]
   refine b7 rfl rfl (.inl rfl) h3 ?_
   cases b3 with
   | false=>simp
   | true=>
    simp [num,b9]
    refine b7 rfl rfl (.inl rfl) h4 ?_
    cases b4<;>simp
theorem c2b (r:LReport):d8 Tryz.prog 152 [.val (j4 r)] (.ret (.val (.bool (Z6 r))) []) []:=by
 have h:=b42 r _ _ _ _ (T6 .i64 r.id 1 1000000) (T6 .i64 r.born 0 1000000) (T6 .i64 r.tries 0 3) (T6 .i64 r.body.length 1 8000)
 have q:(1≤r.body.length∧r.body.length≤8000)↔((1:Int)≤r.body.length∧(r.body.length:Int)≤8000):=by omega
 unfold Z6
 rw [decide_eq_decide.2 q]
 exact h
theorem c_l08At (l:List LChannel) (name:Tx) (hl:l.length < 1099511627776):d8 Tryz.prog 72 [.val (.list 6 (l.map j7)),.val (tx name)] (.ret (.val (num (a07 l fun r=>decide (r.group.name=name)))) []) []:=by
 refine f7 mixed ok72 rfl (fun _=>rfl) ?_
 unfold ir72
 rw [b6]
 simp [d9,i6,j8,b8,d7,num]
 refine j9 (X:=Nat) (fun i=>⟨t6 [(0,.val (.list 6 (l.map j7))),(1,.val (tx name)),(5,.val (num i))],u1 []⟩) (fun i=>i≤l.length∧∀ k (hk:k < i) (hk':k < l.length),l[k].group.name≠name) (fun i=>l.length - i) 0 (Le.mk _ _ ?_ ?_) ?_ ?_
 · simp [upd,num]
 · simp
 · simp
 · rintro i ⟨hi,hne⟩
   simp [num]
   refine f8 (fun h1=>?_) (fun h1=>?_)
   · have e1:(l.map j7)[i]?.getD .nilptr=j7 l[i]:=by simp [List.getElem?_eq_getElem h1]
     simp [num,h1,e1,j7,tx,L3]
     by_cases hu:l[i].group.name=name
     · have hh:a07 l (fun r=>decide (r.group.name=name))=i:=a0f h1 (by simp [hu]) (fun k hk=>by simp [hne k hk (by omega)])
       simp [hu,hh,num]
     · simp [hu]
       refine LoopNext.mk (i+1) ⟨by omega,fun k hk hk'=>?_⟩ (by omega) (Le.mk _ _ ?_ ?_)
       · by_cases e:k=i
         · subst e;exact hu
         · exact hne k (by omega) hk'
       · simp [num,tx];exact wrap_i64 (by omega) (by omega)
       · simp
   · have e:i=l.length:=by omega
     have hh:a07 l (fun r=>decide (r.group.name=name))=-1:=Y2 (fun k hk=>by simp [hne k (by omega) hk])
     simp [hh,num]
theorem c_l06OK (q:LQueue) (hb:a2m 1048576 q):d8 Tryz.prog 114 [.val (K9 q)] (.ret (.val (.bool (T1 q))) []) []:=by
 refine f7 mixed ok114 rfl (fun _=>rfl) ?_
 unfold ir114
 rw [b6]
 by_cases h5:q.items.length≤5
 rotate_left
 · have h5':(5:Int) < q.items.length:=by omega
   have:T1 q=false:=by unfold T1;rw [decide_eq_false h5];rfl
   simp [d9,i6,j8,b8,d7,K9,h5',this]
 have h5':¬ (5:Int) < q.items.length:=by omega
 by_cases h6:q.recent.length≤6
 rotate_left
 · have h6':(6:Int) < q.recent.length:=by omega
   have:T1 q=false:=by unfold T1;rw [decide_eq_false h6];simp
   simp [d9,i6,j8,b8,d7,K9,h5',h6',this]
 have h6':¬ (6:Int) < q.recent.length:=by omega
 have hfin:a0p q.items.length (a5h q.items)=true→a0p q.recent.length (a9j q.recent)=true→T1 q=true:=fun a b=>by
  unfold T1;rw [decide_eq_true h5,decide_eq_true h6,a,b];rfl
 simp [d9,i6,j8,b8,d7,K9,h5',h6']
 refine j9 (X:=Nat) (fun i=>⟨t6 [(1,.ptr 1 0),(3,.val (num i))],u1 [(1,.box [.val (.list 4 (q.items.map j4)),.val (.list 1 (q.recent.map tx))])]⟩) (fun i=>i≤q.items.length∧a0p i (a5h q.items)=true) (fun i=>q.items.length - i) 0 (Le.mk _ _ ?_ ?_) ?_ ?_
 · simp [upd,num]
 · simp
 · simp [a1a]
 · rintro i ⟨hi,hall⟩
   simp [num]
   refine f8 (fun h1=>?_) (fun h1=>?_)
   · have G7:=b05 (q:=q) h1
     have hsu:=a0x (a5h q.items) i
     rw [hall,Bool.true_and] at hsu
     obtain ⟨r,hr⟩:∃ r,q.items[i]=r:=⟨_,rfl⟩
     have hR:=c2b r
     have wi:IntKind.i64.wrap ((i:Int)+1)=((i+1:Nat):Int):=by rw [wrap_i64 (by omega) (by omega)];omega
     by_cases h0:i=0
     · subst h0
       rw [b4g h1,hr] at G7 hsu
       simp [num,h1,hr,j4,tx]
       refine A0 rfl rfl (.inl rfl) hR ?_
       cases hk:Z6 r with
       | false=>simp [G7 hk]
       | true=>
        simp [num]
        refine LoopNext.mk 1 ⟨by omega,by rw [hsu,hk]⟩ (by omega) (Le.mk _ _ ?_ ?_)
        · simp [num,upd];decide
        · simp [tx]
     · obtain ⟨j,hij⟩:∃ j,i=j+1:=⟨i - 1,by omega⟩
       have hj:j < q.items.length:=by omega
       obtain ⟨s,hs⟩:∃ s,q.items[j]=s:=⟨_,rfl⟩
       have hra:a5h q.items i=(Z6 r && (decide (s.id < r.id) && decide (s.born≤r.born))):=by
        subst hij;rw [b4h h1,hr,hs]
       rw [hra] at G7 hsu
       have wj:IntKind.i64.wrap ((i:Int) - 1)=(j:Int):=by rw [wrap_i64 (by omega) (by omega)];omega
       have hp:0 < i:=by omega
       simp [num,h1,hr,j4,tx]
       refine A0 rfl rfl (.inl rfl) hR ?_
       cases hk:Z6 r with
       | false=>simp [G7 (by rw [hk];rfl)]
       | true=>
        rw [hk,Bool.true_and] at G7 hsu
        by_cases hA:s.id < r.id
        · have hA':¬ r.id≤s.id:=by omega
          by_cases hB:s.born≤r.born
          · have hB':¬ r.born < s.born:=by omega
            simp [num,h1,hr,hs,hj,hp,wj,j4,tx,hA',hB']
            refine LoopNext.mk (i+1) ⟨by omega,by rw [hsu,decide_eq_true hA,decide_eq_true hB];rfl⟩ (by omega) (Le.mk _ _ ?_ ?_)
            · simp [num,wi]
            · simp [tx]
          · have hB':r.born < s.born:=by omega
            simp [num,h1,hr,hs,hj,hp,wj,j4,tx,hA',hB',G7 (by rw [decide_eq_false hB,Bool.and_false])]
        · have hA':r.id≤s.id:=by omega
          simp [num,h1,hr,hs,hj,hp,wj,j4,tx,hA',G7 (by rw [decide_eq_false hA,Bool.false_and])]
   · have e:i=q.items.length:=by omega
     subst e
     simp [num]
     refine j9 (X:=Nat) (fun i=>⟨t6 [(1,.ptr 1 0),(4,.val (num i))],u1 [(1,.box [.val (.list 4 (q.items.map j4)),.val (.list 1 (q.recent.map tx))])]⟩) (fun i=>i≤q.recent.length∧a0p i (a9j q.recent)=true) (fun i=>q.recent.length - i) 0 (Le.mk _ _ ?_ ?_) ?_ ?_
     · simp [upd,num]
     · simp
     · simp [a1a]
     · rintro i ⟨hi2,hall2⟩
       simp [num]
       refine f8 (fun h1=>?_) (fun h1=>?_)
       · have G7:=b06 (q:=q) h1
         have hsu:=a0x (a9j q.recent) i
         rw [hall2,Bool.true_and] at hsu
         rw [b93 h1] at G7 hsu
         obtain ⟨r,hr⟩:∃ r,q.recent[i]=r:=⟨_,rfl⟩
         rw [hr] at G7 hsu
         have hR:=T6 .i64 r.length 1 8000
         have hq:(1≤r.length∧r.length≤8000)↔((1:Int)≤r.length∧(r.length:Int)≤8000):=by omega
         rw [decide_eq_decide.2 hq] at G7 hsu
         have hH:=c2d (q.recent.take i) r (by simp;omega)
         have wi:IntKind.i64.wrap ((i:Int)+1)=((i+1:Nat):Int):=by rw [wrap_i64 (by omega) (by omega)];omega
         have hile:i≤q.recent.length:=by omega
         simp [num,h1,hr,tx,b9]
         refine A0 rfl rfl (.inl rfl) hR ?_
         cases hk:decide ((1:Int)≤r.length∧(r.length:Int)≤8000) with
         | false=>simp [G7 (by rw [hk];rfl)]
         | true=>
          rw [hk,Bool.true_and] at G7 hsu
          simp [num,h1,hr,tx,hile,← List.map_take]
          refine A0 rfl rfl (.inl rfl) hH ?_
          by_cases hm:r∈q.recent.take i
          · simp [hm,G7 (by rw [decide_eq_false (fun h=>h hm)])]
          · simp [hm]
            refine LoopNext.mk (i+1) ⟨by omega,by rw [hsu,decide_eq_true hm]⟩ (by omega) (Le.mk _ _ ?_ ?_)
            · simp [num,wi]
            · simp [tx]
       · have e:i=q.recent.length:=by omega
         subst e
         simp [hfin hall hall2]
def U6 (p:LPipe):MObj:=.box [.val (.list 6 (p.channels.map j7)),.val (tx p.policy.reportTo),.val (.list 1 (p.policy.uris.map tx)),.val (.list 2 (p.policy.rules.map l5)),.val (num p.now),.val (num p.next),.val (.list 3 (p.log.map A2)),.val (.list 7 (p.wires.map H7))]
def c2i (c:LChannel):MObj:=.box [.val (tx c.group.name),.val (num c.group.age),.val (.list 3 (c.group.targets.map f9)),.val (.list 6 (c.peers.map G1)),.val (.list 4 (c.queue.items.map j4)),.val (.list 1 (c.queue.recent.map tx))]
theorem b9d (p:LPipe) (c:LChannel) (hb:R1 1048576 c):d8 Tryz.prog 73 [.val (G2 p),.val (j7 c)] (.ret (.val (.bool (S1 p.next p.now c))) []) []:=by
 have hO:=c_l03OK c.group hb.1
 have hpl:c.peers.length≤1048576:=hb.2.1.1
 have htl:c.group.targets.length≤1048576:=hb.1.2.1
 have hP:=c_l07OK c.peers (by omega) (fun x hx=>by have:=hb.2.1.2 x hx;unfold a1c U5 at this;omega)
 have hQ:=c_l06OK c.queue hb.2.2
 have hql:c.queue.items.length≤1048576:=hb.2.2.1.1
 refine f7 mixed ok73 rfl (fun _=>rfl) ?_
 unfold ir73
 rw [b6]
 simp [d9,i6,j8,b8,d7,G2,j7,tx,num]
 refine b7 rfl rfl (.inl rfl) hO ?_
 cases hg:a3b c.group with
 | false=>
  have hf:S1 p.next p.now c=false:=by unfold S1;rw [hg];rfl
  simp [hf]
 | true=>
 simp [num]
 refine b7 rfl rfl (.inl rfl) hP ?_
 cases hp:a0e c.peers with
 | false=>
  have hf:S1 p.next p.now c=false:=by unfold S1;rw [hg,hp];rfl
  simp [hf]
 | true=>
 by_cases hl:c.peers.length=c.group.targets.length
 rotate_left
 · have hf:S1 p.next p.now c=false:=by
    unfold S1
    rw [decide_eq_false (fun h=>hl (by have:=congrArg List.length h;simpa using this))]
    simp
   have hl':¬ ((c.peers.length:Int)=c.group.targets.length):=by omega
   simp [hf,hl,hl']
 simp [num,hl]
 refine b7 rfl rfl (.inl rfl) hQ ?_
 cases hq:T1 c.queue with
 | false=>
  have hf:S1 p.next p.now c=false:=by unfold S1;rw [hq];simp
  simp [hf]
 | true=>
 have hch:S1 p.next p.now c=(decide (c.peers.map (fun p=>p.target)=c.group.targets) && c.queue.items.all fun r=>decide (r.id < p.next) && decide (r.born≤p.now)):=by
  unfold S1;rw [hg,hp,hq];simp
 rw [hch]
 simp [num]
 refine j9 (X:=Nat) (fun i=>⟨t6 [(2,.ptr 2 0),(3,.ptr 3 0),(5,.val (num i))],u1 [(2,U6 p),(3,c2i c)]⟩) (fun i=>i≤c.peers.length∧∀ k,k < i→∀ (h:k < c.peers.length) (h':k < c.group.targets.length),(c.peers[k]).target=c.group.targets[k]) (fun i=>c.peers.length - i) 0 (Le.mk _ _ ?_ ?_) ?_ ?_
 · simp [upd,num,PV.kill]
 · simp [U6,c2i,tx,num,MObj.kill,PV.kill]
 · simp
 · rintro i ⟨hi,hall⟩
   simp [num,c2i]
   refine f8 (fun h1=>?_) (fun h1=>?_)
   · have h1':i < c.group.targets.length:=by omega
     obtain ⟨x,hx⟩:∃ x,c.peers[i]=x:=⟨_,rfl⟩
     obtain ⟨t,ht⟩:∃ t,c.group.targets[i]=t:=⟨_,rfl⟩
     have wi:IntKind.i64.wrap ((i:Int)+1)=((i+1:Nat):Int):=by rw [wrap_i64 (by omega) (by omega)];omega
     have G7:x.target≠t→(decide (c.peers.map (fun p=>p.target)=c.group.targets) && c.queue.items.all fun r=>decide (r.id < p.next) && decide (r.born≤p.now))=false:=fun hne=>by
      rw [decide_eq_false,Bool.false_and]
      intro he
      apply hne
      have:=congrArg (fun l=>l[i]?) he
      simp [List.getElem?_eq_getElem h1,List.getElem?_eq_getElem h1',hx,ht] at this
      exact this
     by_cases hu:x.target.url=t.url
     · by_cases hp2:x.target.prio=t.prio
       · by_cases hw:x.target.weight=t.weight
         · have hxt:x.target=t:=by
            cases hxx:x.target;cases t
            rw [hxx] at hu hp2 hw
            simp only at hu hp2 hw
            subst hu;subst hp2;subst hw;rfl
           simp [num,h1,h1',hx,ht,G1,f9,tx,P1,a4m,a3r,L3,hu,hp2,hw]
           refine LoopNext.mk (i+1) ⟨by omega,fun k hk h h'=>?_⟩ (by omega) (Le.mk _ _ ?_ ?_)
           · by_cases e:k=i
             · subst e;rw [hx,ht];exact hxt
             · exact hall k (by omega) h h'
           · simp [num,wi]
           · simp [c2i,U6,tx,num]
         · simp [num,h1,h1',hx,ht,G1,f9,tx,P1,a4m,a3r,L3,hu,hp2,hw,G7 (fun e=>hw (by rw [e]))]
       · simp [num,h1,h1',hx,ht,G1,f9,tx,P1,a4m,a3r,L3,hu,hp2,G7 (fun e=>hp2 (by rw [e]))]
     · simp [num,h1,h1',hx,ht,G1,f9,tx,P1,a4m,a3r,L3,hu,G7 (fun e=>hu (by rw [e]))]
   · have e:i=c.peers.length:=by omega
     subst e
     have heq:c.peers.map (fun p=>p.target)=c.group.targets:=by
      refine List.ext_getElem (by simpa using hl) fun k h h'=>?_
      simp only [List.getElem_map]
      exact hall k (by simpa using h) (by simpa using h) h'
     rw [decide_eq_true heq,Bool.true_and]
     simp [num]
     refine j9 (X:=Nat) (fun i=>⟨t6 [(2,.ptr 2 0),(3,.ptr 3 0),(6,.val (num i))],u1 [(2,U6 p),(3,c2i c)]⟩) (fun i=>i≤c.queue.items.length∧((c.queue.items.take i).all fun r=>decide (r.id < p.next) && decide (r.born≤p.now))=true) (fun i=>c.queue.items.length - i) 0 (Le.mk _ _ ?_ ?_) ?_ ?_
     · simp [upd,num,PV.kill]
     · simp [U6,c2i,tx,num,MObj.kill,PV.kill]
     · simp
     · rintro i ⟨hi2,hall2⟩
       simp [num,c2i]
       refine f8 (fun h2=>?_) (fun h2=>?_)
       · have hst:((c.queue.items.take (i+1)).all fun r=>decide (r.id < p.next) && decide (r.born≤p.now))=_:=R9 _ _ _ h2
         rw [hall2,Bool.true_and] at hst
         obtain ⟨r,hr⟩:∃ r,c.queue.items[i]=r:=⟨_,rfl⟩
         rw [hr] at hst
         have wi:IntKind.i64.wrap ((i:Int)+1)=((i+1:Nat):Int):=by rw [wrap_i64 (by omega) (by omega)];omega
         have G7:(decide (r.id < p.next) && decide (r.born≤p.now))=false→(c.queue.items.all fun r=>decide (r.id < p.next) && decide (r.born≤p.now))=false:=fun h=>by
          rw [List.all_eq_false]
          exact ⟨r,by rw [← hr];exact List.getElem_mem h2,by rw [h];simp⟩
         by_cases hA:r.id < p.next
         · have hA':¬ p.next≤r.id:=by omega
           by_cases hB:r.born≤p.now
           · have hB':¬ p.now < r.born:=by omega
             simp [num,h2,hr,j4,tx,U6,PV.kill,MObj.kill,hA',hB']
             refine LoopNext.mk (i+1) ⟨by omega,by rw [hst,decide_eq_true hA,decide_eq_true hB];rfl⟩ (by omega) (Le.mk _ _ ?_ ?_)
             · simp [num,wi,PV.kill]
             · simp [c2i,U6,MObj.kill,PV.kill,tx,num]
           · have hB':p.now < r.born:=by omega
             simp [num,h2,hr,j4,tx,U6,PV.kill,MObj.kill,hA',hB',G7 (by rw [decide_eq_false hB,Bool.and_false])]
         · have hA':p.next≤r.id:=by omega
           simp [num,h2,hr,j4,tx,U6,PV.kill,MObj.kill,hA',G7 (by rw [decide_eq_false hA,Bool.false_and])]
       · have e:i=c.queue.items.length:=by omega
         subst e
         rw [List.take_length] at hall2
         simp [hall2]
end Go.Proofs
end
section
namespace Go.Proofs
open Go.PW Go.KP
attribute [local simp] RV.cells RV.one PV.cells PV.solid PV.one G4 i7 L9 L6 RV.ofCells elems PV.killL
variable [GF]
def b6e (w:LWire):MObj:=.box [.val (num w.at_),.val (num w.status),.val (tx w.group),.val (tx w.url),.val (.list 1 (w.ids.map num)),.val (tx w.body),.val (.bool w.lost)]
theorem b8q (p:LPipe) (w:LWire) (b1 b2 b3 b5:Bool) (hn:1≤p.next∧p.next≤1000000) (hil:w.ids.length≤1048576) (h1:d8 Tryz.prog 56 [.val (.int .i64 w.at_),.val (.int .i64 0),.val (.int .i64 p.now)] (.ret (.val (.bool b1)) []) [])
 (h2:d8 Tryz.prog 56 [.val (.int .i64 w.status),.val (.int .i64 100),.val (.int .i64 599)] (.ret (.val (.bool b2)) []) []) (h3:d8 Tryz.prog 115 [.val (tx w.group)] (.ret (.val (.bool b3)) []) [])
 (h5:d8 Tryz.prog 56 [.val (.int .i64 w.ids.length),.val (.int .i64 1),.val (.int .i64 3)] (.ret (.val (.bool b5)) []) []) :
 d8 Tryz.prog 74 [.val (G2 p),.val (H7 w)] (.ret (.val (.bool (b1 && b2 && b3 && decide (w.url.length≤100) && b5 && decide (w.body.length≤65536) && a0p w.ids.length (a72 p.next w.ids)))) []) []:=by
 refine f7 mixed ok74 rfl (fun _=>rfl) ?_
 unfold ir74
 rw [b6]
 simp [d9,i6,j8,b8,d7,G2,H7,tx,num]
 refine b7 rfl rfl (.inl rfl) h1 ?_
 cases b1 with
 | false=>simp
 | true=>
 simp [num]
 refine b7 rfl rfl (.inl rfl) h2 ?_
 cases b2 with
 | false=>simp
 | true=>
 simp [num]
 refine b7 rfl rfl (.inl rfl) h3 ?_
 cases b3 with
 | false=>simp
 | true=>
 by_cases hu:w.url.length≤100
 rotate_left
 · have hu':(100:Int) < w.url.length:=by omega
   simp [num,b9,hu',hu]
 have hu':¬ (100:Int) < w.url.length:=by omega
 simp [num,b9,hu',hu]
 refine b7 rfl rfl (.inl rfl) h5 ?_
 cases b5 with
 | false=>simp
 | true=>
 by_cases hy:w.body.length≤65536
 rotate_left
 · have hy':(65536:Int) < w.body.length:=by omega
   simp [num,b9,hy',hy]
 have hy':¬ (65536:Int) < w.body.length:=by omega
 simp [num,b9,hy',hy]
 have wn:IntKind.i64.wrap (p.next - 1)=p.next - 1:=wrap_i64 (by omega) (by omega)
 refine j9 (X:=Nat) (fun i=>⟨t6 [(2,.ptr 2 0),(3,.ptr 3 0),(5,.val (num i))],u1 [(2,U6 p),(3,b6e w)]⟩) (fun i=>i≤w.ids.length∧a0p i (a72 p.next w.ids)=true) (fun i=>w.ids.length - i) 0 (Le.mk _ _ ?_ ?_) ?_ ?_
 · simp [upd,num,PV.kill]
 · simp [U6,b6e,tx,num,MObj.kill,PV.kill]
 · simp [a1a]
 · rintro i ⟨hi,hall⟩
   simp [num,b6e]
   refine f8 (fun hlt=>?_) (fun hlt=>?_)
   · have G7:a72 p.next w.ids i=false→a0p w.ids.length (a72 p.next w.ids)=false:=a4i hlt
     have hsu:=a0x (a72 p.next w.ids) i
     rw [hall,Bool.true_and] at hsu
     obtain ⟨r,hr⟩:∃ r,w.ids[i]=r:=⟨_,rfl⟩
     have hR:=T6 .i64 r 1 (p.next - 1)
     have wi:IntKind.i64.wrap ((i:Int)+1)=((i+1:Nat):Int):=by rw [wrap_i64 (by omega) (by omega)];omega
     by_cases h0:i=0
     · subst h0
       rw [b7f hlt,hr] at G7 hsu
       simp [num,hlt,hr,tx,U6,wn]
       refine A0 rfl rfl (.inl rfl) hR ?_
       cases hk:decide (1≤r∧r≤p.next - 1) with
       | false=>simp [G7 hk]
       | true=>
        simp [num]
        refine LoopNext.mk 1 ⟨by omega,by rw [hsu,hk]⟩ (by omega) (Le.mk _ _ ?_ ?_)
        · simp [num,upd];decide
        · simp [tx,U6,b6e,num]
     · obtain ⟨j,hij⟩:∃ j,i=j+1:=⟨i - 1,by omega⟩
       have hj:j < w.ids.length:=by omega
       obtain ⟨s,hs⟩:∃ s,w.ids[j]=s:=⟨_,rfl⟩
       have hra:a72 p.next w.ids i=(decide (1≤r∧r≤p.next - 1) && decide (s < r)):=by
        subst hij;rw [b7g hlt,hr,hs]
       rw [hra] at G7 hsu
       have wj:IntKind.i64.wrap ((i:Int) - 1)=(j:Int):=by rw [wrap_i64 (by omega) (by omega)];omega
       have hp:0 < i:=by omega
       simp [num,hlt,hr,tx,U6,wn]
       refine A0 rfl rfl (.inl rfl) hR ?_
       cases hk:decide (1≤r∧r≤p.next - 1) with
       | false=>simp [G7 (by rw [hk];rfl)]
       | true=>
        rw [hk,Bool.true_and] at G7 hsu
        by_cases hA:s < r
        · have hA':¬ r≤s:=by omega
          simp [num,hlt,hr,hs,hj,hp,wj,tx,hA']
          refine LoopNext.mk (i+1) ⟨by omega,by rw [hsu,decide_eq_true hA]⟩ (by omega) (Le.mk _ _ ?_ ?_)
          · simp [num,wi]
          · simp [tx,U6,b6e,num]
        · have hA':r≤s:=by omega
          simp [num,hlt,hr,hs,hj,hp,wj,tx,hA',G7 (decide_eq_false hA)]
   · have e:i=w.ids.length:=by omega
     subst e
     simp [hall,hu,hy]
theorem c8j (p:LPipe) (w:LWire) (hn:1≤p.next∧p.next≤1000000) (hb:Z3 1048576 w):d8 Tryz.prog 74 [.val (G2 p),.val (H7 w)] (.ret (.val (.bool (X5 p.next p.now w))) []) []:=by
 have hgl:w.group.length≤1048576:=hb.1
 have hil:w.ids.length≤1048576:=hb.2.2.1
 have q:(1≤w.ids.length∧w.ids.length≤3)↔((1:Int)≤w.ids.length∧(w.ids.length:Int)≤3):=by omega
 unfold X5
 rw [decide_eq_decide.2 q]
 exact b8q p w _ _ _ _ hn hil (T6 .i64 w.at_ 0 p.now) (T6 .i64 w.status 100 599) (b2c w.group (by omega)) (T6 .i64 w.ids.length 1 3)
theorem c16 (p:LPipe) (i:Nat) (h:i < p.channels.length):(a07 p.channels fun c=>decide (c.group.name=(p.channels[i]).group.name))=(i:Int)↔(p.channels[i]).group.name∉(p.channels.map fun c=>c.group.name).take i:=b12 (fun c:LChannel=>c.group.name) p.channels i h
theorem c_l08OK (p:LPipe) (hb:Z4 1048576 p):d8 Tryz.prog 35 [.val (G2 p)] (.ret (.val (.bool (O8 p))) []) []:=by
 have hcl:p.channels.length≤1048576:=hb.1.1
 have hP:=c_l04OK p.policy hb.2.1
 have hN:=T6 .i64 p.now 0 1000000
 have hX:=T6 .i64 p.next 1 1000000
 refine f7 mixed ok35 rfl (fun _=>rfl) ?_
 unfold ir35
 rw [b6]
 by_cases h5:p.channels.length≤5
 rotate_left
 · have h5':(5:Int) < p.channels.length:=by omega
   have hf:O8 p=false:=by unfold O8;rw [decide_eq_false h5];rfl
   simp [d9,i6,j8,b8,d7,G2,tx,num,h5',hf]
 have h5':¬ (5:Int) < p.channels.length:=by omega
 simp [d9,i6,j8,b8,d7,G2,tx,num,h5']
 refine b7 rfl rfl (.inl rfl) hP ?_
 cases hpol:Y1 p.policy with
 | false=>
  have hf:O8 p=false:=by unfold O8;rw [hpol];simp
  simp [hf]
 | true=>
 simp [num]
 refine b7 rfl rfl (.inl rfl) hN ?_
 cases hnow:decide (0≤p.now∧p.now≤1000000) with
 | false=>
  have hf:O8 p=false:=by unfold O8;rw [hnow];simp
  simp [hf]
 | true=>
 simp [num]
 refine b7 rfl rfl (.inl rfl) hX ?_
 cases hnext:decide (1≤p.next∧p.next≤1000000) with
 | false=>
  have hf:O8 p=false:=by unfold O8;rw [hnext];simp
  simp [hf]
 | true=>
 by_cases hll:p.log.length≤4096
 rotate_left
 · have hll':(4096:Int) < p.log.length:=by omega
   have hf:O8 p=false:=by unfold O8;rw [decide_eq_false hll];simp
   simp [num,hll',hf]
 have hll':¬ (4096:Int) < p.log.length:=by omega
 by_cases hwl:p.wires.length≤4096
 rotate_left
 · have hwl':(4096:Int) < p.wires.length:=by omega
   have hf:O8 p=false:=by unfold O8;rw [decide_eq_false hwl];simp
   simp [num,hll',hwl',hf]
 have hwl':¬ (4096:Int) < p.wires.length:=by omega
 have hpk:O8 p=(a0p p.channels.length (a3h p) && a0p p.log.length (a4f p.next p.now p.log) && p.wires.all (X5 p.next p.now)):=by
  unfold O8;rw [decide_eq_true h5,hpol,hnow,hnext,decide_eq_true hll,decide_eq_true hwl];simp
 have hn2:1≤p.next∧p.next≤1000000:=of_decide_eq_true hnext
 have wn:IntKind.i64.wrap (p.next - 1)=p.next - 1:=wrap_i64 (by omega) (by omega)
 rw [hpk]
 simp [num,hll',hwl']
 refine j9 (X:=Nat) (fun i=>⟨t6 [(1,.ptr 1 0),(3,.val (num i))],u1 [(1,U6 p)]⟩) (fun i=>i≤p.channels.length∧a0p i (a3h p)=true) (fun i=>p.channels.length - i) 0 (Le.mk _ _ ?_ ?_) ?_ ?_
 · simp [upd,num,PV.kill]
 · simp [U6,tx,num,MObj.kill,PV.kill]
 · simp [a1a]
 · rintro i ⟨hi,hall⟩
   simp [num,U6]
   refine f8 (fun hlt=>?_) (fun hlt=>?_)
   · have G7:a3h p i=false→(a0p p.channels.length (a3h p) && a0p p.log.length (a4f p.next p.now p.log) && p.wires.all (X5 p.next p.now))=false:=fun h=>by rw [a4i hlt h];rfl
     have hsu:=a0x (a3h p) i
     rw [hall,Bool.true_and] at hsu
     rw [b7n hlt] at G7 hsu
     have hnm:=c16 p i hlt
     obtain ⟨c,hc⟩:∃ c,p.channels[i]=c:=⟨_,rfl⟩
     have hbc:R1 1048576 c:=by rw [← hc];exact hb.1.2 _ (List.getElem_mem hlt)
     rw [hc] at G7 hsu hnm
     have hA:=c_l08At p.channels c.group.name (by omega)
     have hC:=b9d p c hbc
     have wi:IntKind.i64.wrap ((i:Int)+1)=((i+1:Nat):Int):=by rw [wrap_i64 (by omega) (by omega)];omega
     simp [num,hlt,hc,j7,tx]
     refine A0 rfl rfl (.inl rfl) hA ?_
     by_cases hu:c.group.name∈(p.channels.map fun c=>c.group.name).take i
     · have hne:¬ (a07 p.channels fun x=>decide (x.group.name=c.group.name))=(i:Int):=fun h=>hnm.1 h hu
       simp [num,hne,G7 (by rw [decide_eq_false (fun h=>h hu),Bool.false_and])]
     · have heq:=hnm.2 hu
       rw [decide_eq_true hu,Bool.true_and] at G7 hsu
       simp [num,heq,hlt,hc,j7,tx]
       refine A0 rfl rfl (.inl rfl) hC ?_
       cases hk:S1 p.next p.now c with
       | false=>simp [G7 hk]
       | true=>
        simp
        refine LoopNext.mk (i+1) ⟨by omega,by rw [hsu,hk]⟩ (by omega) (Le.mk _ _ ?_ ?_)
        · simp [num,wi]
        · simp [tx,U6,num]
   · have e:i=p.channels.length:=by omega
     subst e
     rw [hall,Bool.true_and]
     simp [num]
     refine j9 (X:=Nat) (fun i=>⟨t6 [(1,.ptr 1 0),(4,.val (num i))],u1 [(1,U6 p)]⟩) (fun i=>i≤p.log.length∧a0p i (a4f p.next p.now p.log)=true) (fun i=>p.log.length - i) 0 (Le.mk _ _ ?_ ?_) ?_ ?_
     · simp [upd,num,PV.kill]
     · simp [U6,tx,num,MObj.kill,PV.kill]
     · simp [a1a]
     · rintro i ⟨hi2,hall2⟩
       simp [num,U6]
       refine f8 (fun hlt=>?_) (fun hlt=>?_)
       · have G7:a4f p.next p.now p.log i=false→(a0p p.log.length (a4f p.next p.now p.log) && p.wires.all (X5 p.next p.now))=false:=fun h=>by rw [a4i hlt h];rfl
         have hsu:=a0x (a4f p.next p.now p.log) i
         have hlo:=b1f (by omega) hall2
         rw [hall2,Bool.true_and] at hsu
         rw [b5n hlt] at G7 hsu
         obtain ⟨x,hx⟩:∃ x,p.log[i]=x:=⟨_,rfl⟩
         rw [hx] at G7 hsu
         have hK:=T6 .i64 x.kind 1 7
         have hI:=T6 .i64 x.id 1 (p.next - 1)
         have hT:=T6 .i64 x.at_ 0 p.now
         have wi:IntKind.i64.wrap ((i:Int)+1)=((i+1:Nat):Int):=by rw [wrap_i64 (by omega) (by omega)];omega
         simp [num,hlt,hx,A2,tx,PV.kill,MObj.kill]
         refine A0 rfl rfl (.inl rfl) hK ?_
         cases hk:decide (1≤x.kind∧x.kind≤7) with
         | false=>simp [G7 (by rw [hk];rfl)]
         | true=>
         rw [hk,Bool.true_and] at G7 hsu
         simp [num,wn,PV.kill]
         refine A0 rfl rfl (.inl rfl) hI ?_
         cases hid:decide (1≤x.id∧x.id≤p.next - 1) with
         | false=>simp [G7 (by rw [hid];rfl)]
         | true=>
         rw [hid,Bool.true_and] at G7 hsu
         simp [num,wn,PV.kill]
         refine A0 rfl rfl (.inl rfl) hT ?_
         cases hat:decide (0≤x.at_∧x.at_≤p.now) with
         | false=>simp [G7 (decide_eq_false (fun h=>(of_decide_eq_false hat) ⟨by omega,h.2⟩))]
         | true=>
         have hat2:=of_decide_eq_true hat
         by_cases h0:i=0
         · subst h0
           have hl0:a9s p.log 0=0:=rfl
           rw [hl0] at hsu
           simp [num]
           refine LoopNext.mk 1 ⟨by omega,by rw [hsu,hat]⟩ (by omega) (Le.mk _ _ ?_ ?_)
           · simp [num,upd,PV.kill];decide
           · simp [tx,U6,num,PV.kill,MObj.kill]
         · obtain ⟨j,hij⟩:∃ j,i=j+1:=⟨i - 1,by omega⟩
           have hj:j < p.log.length:=by omega
           obtain ⟨y,hy⟩:∃ y,p.log[j]=y:=⟨_,rfl⟩
           have hly:a9s p.log i=y.at_:=by subst hij;rw [b0e hj,hy]
           rw [hly] at G7 hsu
           have wj:IntKind.i64.wrap ((i:Int) - 1)=(j:Int):=by rw [wrap_i64 (by omega) (by omega)];omega
           have hp:0 < i:=by omega
           by_cases hA:x.at_ < y.at_
           · simp [num,hlt,hx,hy,hj,hp,wj,A2,tx,PV.kill,MObj.kill,hA,G7 (decide_eq_false (fun h=>by omega))]
           · simp [num,hlt,hx,hy,hj,hp,wj,A2,tx,PV.kill,MObj.kill,hA]
             refine LoopNext.mk (i+1) ⟨by omega,by rw [hsu];exact decide_eq_true ⟨by omega,hat2.2⟩⟩ (by omega) (Le.mk _ _ ?_ ?_)
             · simp [num,wi,PV.kill]
             · simp [tx,U6,num,PV.kill,MObj.kill]
       · have e:i=p.log.length:=by omega
         subst e
         rw [hall2,Bool.true_and]
         simp [num]
         refine j9 (X:=Nat) (fun i=>⟨t6 [(1,.ptr 1 0),(6,.val (num i))],u1 [(1,U6 p)]⟩) (fun i=>i≤p.wires.length∧(p.wires.take i).all (X5 p.next p.now)=true) (fun i=>p.wires.length - i) 0 (Le.mk _ _ ?_ ?_) ?_ ?_
         · simp [upd,num,PV.kill]
         · simp [U6,tx,num,MObj.kill,PV.kill]
         · simp
         · rintro i ⟨hi3,hall3⟩
           simp [num,U6]
           refine f8 (fun hlt3=>?_) (fun hlt3=>?_)
           · have hst:=R9 p.wires (X5 p.next p.now) i hlt3
             rw [hall3,Bool.true_and] at hst
             obtain ⟨x,hx⟩:∃ x,p.wires[i]=x:=⟨_,rfl⟩
             have hbw:Z3 1048576 x:=by rw [← hx];exact hb.2.2.2.2 _ (List.getElem_mem hlt3)
             rw [hx] at hst
             have hW:=c8j p x hn2 hbw
             have wi:IntKind.i64.wrap ((i:Int)+1)=((i+1:Nat):Int):=by rw [wrap_i64 (by omega) (by omega)];omega
             have G7:X5 p.next p.now x=false→p.wires.all (X5 p.next p.now)=false:=fun h=>List.all_eq_false.2 ⟨x,by rw [← hx];exact List.getElem_mem hlt3,by simp [h]⟩
             simp [num,hlt3,hx,H7,tx]
             refine A0 rfl rfl (.inl rfl) hW ?_
             cases hk:X5 p.next p.now x with
             | false=>simp [G7 hk]
             | true=>
              simp
              refine LoopNext.mk (i+1) ⟨by omega,by rw [hst,hk]⟩ (by omega) (Le.mk _ _ ?_ ?_)
              · simp [num,wi]
              · simp [tx,U6,num]
           · have e:i=p.wires.length:=by omega
             subst e
             rw [List.take_length] at hall3
             simp [hall3]
end Go.Proofs
end
