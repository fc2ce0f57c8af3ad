/- Cc: merged out of KSl, KSp, KSt, KSu, KSx. -/
import Derived.Test.YtapjdgcfakhpaaaGreatDoorCa
import Derived.Test.YtapjdgcfakhpaaaGreatDoorAc
import Derived.Test.YtapjdgcfakhpaaaGreatDoorBa
import Derived.Test.YtapjdgcfakhpaaaGreatDoorCb
set_option linter.unusedSectionVars false
set_option linter.unusedSimpArgs false
set_option linter.unusedVariables false
set_option maxRecDepth 100000
section
namespace Go.Proofs
open Go.PW Go.KP
attribute [local simp] RV.cells RV.one PV.cells PV.solid PV.one G1 i6 L8 K7 RV.ofCells elems PV.killL
variable [GF]
theorem a8b (l:List Tx) (left:Int) (h0:0≤left) (h1:left≤1048576) (hx:bdS 9223372036854775807 (fun t=>t.length≤9223372036854775807) l):d8 Tryz.prog 66 [.val (.list 1 (l.map tx)),.val (num left)] (.ret (.val (num (cut left (zS List.length l)))) []) []:=by
 refine f6 mixed ok66 rfl (fun _=>rfl) ?_
 unfold ir66
 rw [b6]
 have hl:l.length≤9223372036854775807:=hx.1
 have hw:IntKind.i64.wrap (left - (l.length:Int))=left - l.length:=wrap_i64 (by omega) (by omega)
 have hzs:zS List.length l=l.length+G3 List.length l:=rfl
 by_cases h:left - (l.length:Int) < 0
 · rw [l5 (by omega)]
   simp [d9,f9,j8,b8,d7,num,hw,h]
 · simp [d9,f9,j8,b8,d7,num,hw,h]
   refine j7 (X:=Nat) (fun i=>⟨t6 [(0,.val (.list 1 (l.map tx))),(1,.val (num (left - l.length - (G3 List.length (l.take i):Nat)))),(5,.val (num i))],u1 []⟩) (fun i=>i≤l.length∧0≤left - l.length - (G3 List.length (l.take i):Nat)) (fun i=>l.length - i) 0 (Le.mk _ _ ?_ ?_) ?_ ?_
   · simp [upd,num,G3,PV.kill]
   · simp
   · simp [G3];omega
   · rintro i ⟨hi,hg⟩
     simp [num]
     refine f7 (fun h2=>?_) (fun h2=>?_)
     · have e1:(l.map tx)[i]?.getD .nilptr=tx l[i]:=by simp [List.getElem?_eq_getElem h2]
       have hsn:G3 List.length (l.take (i+1))=G3 List.length (l.take i)+List.length l[i]:=a09 _ h2
       have hle:=a33 (f:=List.length) l (i+1)
       have hxi:l[i].length≤9223372036854775807:=hx.2 _ (List.getElem_mem h2)
       have hw2:IntKind.i64.wrap (left - (l.length:Int) - (G3 List.length (l.take i):Int) - (l[i].length:Int))=left - (l.length:Int) - (G3 List.length (l.take i):Int) - (l[i].length:Int):=wrap_i64 (by omega) (by omega)
       by_cases h3:left - (l.length:Int) - (G3 List.length (l.take i):Int) - (l[i].length:Int) < 0
       · rw [l5 (by omega)]
         simp [num,h2,e1,tx,b9,hw2,h3]
       · simp [num,h2,e1,tx,b9,hw2,h3]
         refine LoopNext.mk (i+1) ⟨by omega,by omega⟩ (by omega) (Le.mk _ _ ?_ ?_)
         · simp [num]
           exact ⟨by omega,wrap_i64 (by omega) (by omega)⟩
         · simp
     · have e1:i=l.length:=by omega
       subst e1
       rw [List.take_length] at *
       rw [K9 (by omega)]
       simp [num]
       omega
theorem a8c (l:List Tx) (hx:bdS 1048576 (fun t=>t.length≤1048576) l):d8 Tryz.prog 31 [.val (.list 1 (l.map tx)),.val (.list 1 (l.map tx))] (.ret (.val (.bool true)) []) []:=by
 refine f6 mixed ok31 rfl (fun _=>rfl) ?_
 unfold ir31
 rw [b6]
 have hl:l.length≤1048576:=hx.1
 simp [d9,f9,j8,b8,d7,num]
 refine j7 (X:=Nat) (fun i=>⟨t6 [(0,.val (.list 1 (l.map tx))),(1,.val (.list 1 (l.map tx))),(5,.val (num i))],u1 []⟩) (fun i=>i≤l.length) (fun i=>l.length - i) 0 (Le.mk _ _ ?_ ?_) ?_ ?_
 · simp [upd,num,PV.kill]
 · simp
 · simp
 · intro i hi
   simp [num]
   refine f7 (fun h1=>?_) (fun h1=>?_)
   · have e1:(l.map tx)[i]?.getD .nilptr=tx l[i]:=by simp [List.getElem?_eq_getElem h1]
     simp [num,h1,e1,tx]
     refine LoopNext.mk (i+1) (by omega) (by omega) (Le.mk _ _ ?_ ?_)
     · simp [num];exact wrap_i64 (by omega) (by omega)
     · simp
   · simp
theorem d1a (x:LRule) (left:Int) (h0:0≤left) (h1:left≤1048576) (hx:X5 9223372036854775807 x):d8 Tryz.prog 123 [.val (l4 x),.val (num left)] (.ret (.val (num (cut left (Z8 x)))) []) []:=by
 refine f6 mixed ok123 rfl (fun _=>rfl) ?_
 unfold ir123
 rw [b6]
 unfold X5 at hx
 obtain ⟨b0,b1⟩:=hx
 unfold Z8
 have w0:IntKind.i64.wrap (left - ((x.name.length:Nat):Int))=left - ((x.name.length:Nat):Int):=wrap_i64 (by omega) (by omega)
 by_cases k0:left - ((x.name.length:Nat):Int) < 0
 · rw [l5 (by omega)]
   simp [d9,f9,j8,b8,d7,l4,tx,num,b9,i6,w0,k0]
 · simp [d9,f9,j8,b8,d7,l4,tx,num,b9,i6,w0,k0]
   refine b7 rfl rfl (.inl rfl) (a8b x.words (left - (x.name.length:Nat)) (by omega) (by omega) b1) ?_
   by_cases k1:(left - (x.name.length:Nat)) - ((zS List.length x.words:Nat):Int) < 0
   · first | rw [l5 (by omega),l5 (by omega)] | rw [l5 (by omega)]
     simp [l4,tx,num,b9,i6]
   · first | rw [K9 (by omega),K9 (by omega)] | rw [K9 (by omega)]
     simp [l4,tx,num,b9,i6,k0,k1]
     try omega
theorem d1f (x:LRule) (hx:X5 1048576 x):d8 Tryz.prog 136 [.val (l4 x),.val (l4 x)] (.ret (.val (.bool true)) []) []:=by
 refine f6 mixed ok136 rfl (fun _=>rfl) ?_
 unfold ir136
 rw [b6]
 unfold X5 at hx
 obtain ⟨b0,b1⟩:=hx
 simp [d9,f9,j8,b8,d7,l4,tx,num,i6]
 refine b7 rfl rfl (.inl rfl) (a8c x.words b1) ?_
 simp [l4,tx,num,i6]
theorem c8g (l:List LRule) (left:Int) (h0:0≤left) (h1:left≤1048576) (hx:bdS 9223372036854775807 (X5 9223372036854775807) l):d8 Tryz.prog 67 [.val (.list 2 (l.map l4)),.val (num left)] (.ret (.val (num (cut left (zS Z8 l)))) []) []:=by
 refine f6 mixed ok67 rfl (fun _=>rfl) ?_
 unfold ir67
 rw [b6]
 have hl:l.length≤9223372036854775807:=hx.1
 have hw:IntKind.i64.wrap (left - (l.length:Int))=left - l.length:=wrap_i64 (by omega) (by omega)
 have hzs:zS Z8 l=l.length+G3 Z8 l:=rfl
 by_cases h:left - (l.length:Int) < 0
 · rw [l5 (by omega)]
   simp [d9,f9,j8,b8,d7,num,hw,h]
 · simp [d9,f9,j8,b8,d7,num,hw,h]
   refine j7 (X:=Nat) (fun i=>⟨t6 [(0,.val (.list 2 (l.map l4))),(1,.val (num (left - l.length - (G3 Z8 (l.take i):Nat)))),(5,.val (num i))],u1 []⟩) (fun i=>i≤l.length∧0≤left - l.length - (G3 Z8 (l.take i):Nat)) (fun i=>l.length - i) 0 (Le.mk _ _ ?_ ?_) ?_ ?_
   · simp [upd,num,G3,PV.kill]
   · simp
   · simp [G3];omega
   · rintro i ⟨hi,hg⟩
     simp [num]
     refine f7 (fun h2=>?_) (fun h2=>?_)
     · have e1:(l.map l4)[i]?.getD .nilptr=l4 l[i]:=by simp [List.getElem?_eq_getElem h2]
       have hsn:G3 Z8 (l.take (i+1))=G3 Z8 (l.take i)+Z8 l[i]:=a09 _ h2
       have hle:=a33 (f:=Z8) l (i+1)
       simp [num,h2,e1,l4,tx]
       refine b7 rfl rfl (.inl rfl) (d1a l[i] (left - l.length - (G3 Z8 (l.take i):Nat)) (by omega) (by omega) (hx.2 _ (List.getElem_mem h2))) ?_
       by_cases h3:left - (l.length:Int) - (G3 Z8 (l.take i):Int) - (Z8 l[i]:Int) < 0
       · have c1:cut (left - l.length - (G3 Z8 (l.take i):Nat)) (Z8 l[i])=-1:=l5 (by omega)
         have c2:cut left (zS Z8 l)=-1:=l5 (by omega)
         rw [c1,c2]
         simp [num]
       · have c1:cut (left - l.length - (G3 Z8 (l.take i):Nat)) (Z8 l[i])=left - l.length - (G3 Z8 (l.take i):Nat) - (Z8 l[i]:Nat):=K9 (by omega)
         rw [c1]
         simp [num,h3]
         refine LoopNext.mk (i+1) ⟨by omega,by omega⟩ (by omega) (Le.mk _ _ ?_ ?_)
         · simp [num]
           exact ⟨by omega,wrap_i64 (by omega) (by omega)⟩
         · simp
     · have e1:i=l.length:=by omega
       subst e1
       rw [List.take_length] at *
       rw [K9 (by omega)]
       simp [num]
       omega
theorem c8l (l:List LRule) (hx:bdS 1048576 (X5 1048576) l):d8 Tryz.prog 77 [.val (.list 2 (l.map l4)),.val (.list 2 (l.map l4))] (.ret (.val (.bool true)) []) []:=by
 refine f6 mixed ok77 rfl (fun _=>rfl) ?_
 unfold ir77
 rw [b6]
 have hl:l.length≤1048576:=hx.1
 simp [d9,f9,j8,b8,d7,num]
 refine j7 (X:=Nat) (fun i=>⟨t6 [(0,.val (.list 2 (l.map l4))),(1,.val (.list 2 (l.map l4))),(5,.val (num i))],u1 []⟩) (fun i=>i≤l.length) (fun i=>l.length - i) 0 (Le.mk _ _ ?_ ?_) ?_ ?_
 · simp [upd,num,PV.kill]
 · simp
 · simp
 · intro i hi
   simp [num]
   refine f7 (fun h1=>?_) (fun h1=>?_)
   · have e1:(l.map l4)[i]?.getD .nilptr=l4 l[i]:=by simp [List.getElem?_eq_getElem h1]
     simp [num,h1,e1,l4,tx]
     refine b7 rfl rfl (.inl rfl) (d1f l[i] (hx.2 _ (List.getElem_mem h1))) ?_
     simp
     refine LoopNext.mk (i+1) (by omega) (by omega) (Le.mk _ _ ?_ ?_)
     · simp [num];exact wrap_i64 (by omega) (by omega)
     · simp
   · simp
theorem c43 (x:LPolicy) (left:Int) (h0:0≤left) (h1:left≤1048576) (hx:a0h 9223372036854775807 x):d8 Tryz.prog 20 [.val (w8 x),.val (num left)] (.ret (.val (num (cut left (a1v x)))) []) []:=by
 refine f6 mixed ok20 rfl (fun _=>rfl) ?_
 unfold ir20
 rw [b6]
 unfold a0h at hx
 obtain ⟨b0,b1,b2⟩:=hx
 unfold a1v
 have w0:IntKind.i64.wrap (left - ((x.reportTo.length:Nat):Int))=left - ((x.reportTo.length:Nat):Int):=wrap_i64 (by omega) (by omega)
 by_cases k0:left - ((x.reportTo.length:Nat):Int) < 0
 · rw [l5 (by omega)]
   simp [d9,f9,j8,b8,d7,w8,tx,num,b9,i6,w0,k0]
 · simp [d9,f9,j8,b8,d7,w8,tx,num,b9,i6,w0,k0]
   refine b7 rfl rfl (.inl rfl) (a8b x.uris (left - (x.reportTo.length:Nat)) (by omega) (by omega) b1) ?_
   by_cases k1:(left - (x.reportTo.length:Nat)) - ((zS List.length x.uris:Nat):Int) < 0
   · first | rw [l5 (by omega),l5 (by omega)] | rw [l5 (by omega)]
     simp [w8,tx,num,b9,i6]
   · rw [K9 (show ¬ (left - (x.reportTo.length:Nat)) - ((zS List.length x.uris:Nat):Int) < 0 by omega)]
     simp [w8,tx,num,b9,i6,k0,k1]
     refine b7 rfl rfl (.inl rfl) (c8g x.rules (left - (x.reportTo.length:Nat) - (zS List.length x.uris:Nat)) (by omega) (by omega) b2) ?_
     by_cases k2:(left - (x.reportTo.length:Nat) - (zS List.length x.uris:Nat)) - ((zS Z8 x.rules:Nat):Int) < 0
     · first | rw [l5 (by omega),l5 (by omega)] | rw [l5 (by omega)]
       simp [w8,tx,num,b9,i6]
     · first | rw [K9 (by omega),K9 (by omega)] | rw [K9 (by omega)]
       simp [w8,tx,num,b9,i6,k0,k1,k2]
       try omega
theorem c47 (x:LPolicy) (hx:a0h 1048576 x):d8 Tryz.prog 25 [.val (w8 x),.val (w8 x)] (.ret (.val (.bool true)) []) []:=by
 refine f6 mixed ok25 rfl (fun _=>rfl) ?_
 unfold ir25
 rw [b6]
 unfold a0h at hx
 obtain ⟨b0,b1,b2⟩:=hx
 simp [d9,f9,j8,b8,d7,w8,tx,num,i6]
 refine b7 rfl rfl (.inl rfl) (a8c x.uris b1) ?_
 simp [w8,tx,num,i6]
 refine b7 rfl rfl (.inl rfl) (c8l x.rules b2) ?_
 simp [w8,tx,num,i6]
end Go.Proofs
end
section
namespace Go.Proofs
open Go.PW Go.KP
attribute [local simp] RV.cells RV.one PV.cells PV.solid PV.one G1 i6 L8 K7 RV.ofCells elems PV.killL
variable [GF]
theorem b5p (x:LTarget) (left:Int) (h0:0≤left) (h1:left≤1048576) (hx:U4 9223372036854775807 x):d8 Tryz.prog 293 [.val (f8 x),.val (num left)] (.ret (.val (num (cut left (S2 x)))) []) []:=by
 refine f6 mixed ok293 rfl (fun _=>rfl) ?_
 unfold ir293
 rw [b6]
 unfold U4 at hx
 have b0:=hx
 unfold S2
 have w0:IntKind.i64.wrap (left - ((x.url.length:Nat):Int))=left - ((x.url.length:Nat):Int):=wrap_i64 (by omega) (by omega)
 by_cases k0:left - ((x.url.length:Nat):Int) < 0
 · rw [l5 (by omega)]
   simp [d9,f9,j8,b8,d7,f8,tx,num,b9,i6,w0,k0]
 · rw [K9 (by omega)]
   simp [d9,f9,j8,b8,d7,f8,tx,num,b9,i6,w0,k0]
   try omega
theorem b5n (x:LTarget) (hx:U4 1048576 x):d8 Tryz.prog 295 [.val (f8 x)] (.ret (.val (f8 x)) []) []:=by
 refine f6 mixed ok295 rfl (fun _=>rfl) ?_
 unfold ir295
 rw [b6]
 unfold U4 at hx
 have b0:=hx
 simp [d9,f9,j8,b8,d7,f8,tx,num,i6]
 refine (b8i (id:=2) (n:=3) (rs:=[tx x.url,num x.prio,num x.weight]) ?_ ?_ rfl (by omega)).trans ?_
 · simp
 · simp [tx,num]
 · simp [f8,tx,num,i6]
theorem b5q (x:LTarget) (hx:U4 1048576 x):d8 Tryz.prog 135 [.val (f8 x),.val (f8 x)] (.ret (.val (.bool true)) []) []:=by
 refine f6 mixed ok135 rfl (fun _=>rfl) ?_
 unfold ir135
 rw [b6]
 unfold U4 at hx
 have b0:=hx
 simp [d9,f9,j8,b8,d7,f8,tx,num,i6]
theorem c1y (l:List LTarget) (left:Int) (h0:0≤left) (h1:left≤1048576) (hx:bdS 9223372036854775807 (U4 9223372036854775807) l):d8 Tryz.prog 223 [.val (.list 3 (l.map f8)),.val (num left)] (.ret (.val (num (cut left (zS S2 l)))) []) []:=by
 refine f6 mixed ok223 rfl (fun _=>rfl) ?_
 unfold ir223
 rw [b6]
 have hl:l.length≤9223372036854775807:=hx.1
 have hw:IntKind.i64.wrap (left - (l.length:Int))=left - l.length:=wrap_i64 (by omega) (by omega)
 have hzs:zS S2 l=l.length+G3 S2 l:=rfl
 by_cases h:left - (l.length:Int) < 0
 · rw [l5 (by omega)]
   simp [d9,f9,j8,b8,d7,num,hw,h]
 · simp [d9,f9,j8,b8,d7,num,hw,h]
   refine j7 (X:=Nat) (fun i=>⟨t6 [(0,.val (.list 3 (l.map f8))),(1,.val (num (left - l.length - (G3 S2 (l.take i):Nat)))),(5,.val (num i))],u1 []⟩) (fun i=>i≤l.length∧0≤left - l.length - (G3 S2 (l.take i):Nat)) (fun i=>l.length - i) 0 (Le.mk _ _ ?_ ?_) ?_ ?_
   · simp [upd,num,G3,PV.kill]
   · simp
   · simp [G3];omega
   · rintro i ⟨hi,hg⟩
     simp [num]
     refine f7 (fun h2=>?_) (fun h2=>?_)
     · have e1:(l.map f8)[i]?.getD .nilptr=f8 l[i]:=by simp [List.getElem?_eq_getElem h2]
       have hsn:G3 S2 (l.take (i+1))=G3 S2 (l.take i)+S2 l[i]:=a09 _ h2
       have hle:=a33 (f:=S2) l (i+1)
       simp [num,h2,e1,f8,tx]
       refine b7 rfl rfl (.inl rfl) (b5p l[i] (left - l.length - (G3 S2 (l.take i):Nat)) (by omega) (by omega) (hx.2 _ (List.getElem_mem h2))) ?_
       by_cases h3:left - (l.length:Int) - (G3 S2 (l.take i):Int) - (S2 l[i]:Int) < 0
       · have c1:cut (left - l.length - (G3 S2 (l.take i):Nat)) (S2 l[i])=-1:=l5 (by omega)
         have c2:cut left (zS S2 l)=-1:=l5 (by omega)
         rw [c1,c2]
         simp [num]
       · have c1:cut (left - l.length - (G3 S2 (l.take i):Nat)) (S2 l[i])=left - l.length - (G3 S2 (l.take i):Nat) - (S2 l[i]:Nat):=K9 (by omega)
         rw [c1]
         simp [num,h3]
         refine LoopNext.mk (i+1) ⟨by omega,by omega⟩ (by omega) (Le.mk _ _ ?_ ?_)
         · simp [num]
           exact ⟨by omega,wrap_i64 (by omega) (by omega)⟩
         · simp
     · have e1:i=l.length:=by omega
       subst e1
       rw [List.take_length] at *
       rw [K9 (by omega)]
       simp [num]
       omega
theorem c11 (l:List LTarget) (hx:bdS 1048576 (U4 1048576) l):d8 Tryz.prog 76 [.val (.list 3 (l.map f8)),.val (.list 3 (l.map f8))] (.ret (.val (.bool true)) []) []:=by
 refine f6 mixed ok76 rfl (fun _=>rfl) ?_
 unfold ir76
 rw [b6]
 have hl:l.length≤1048576:=hx.1
 simp [d9,f9,j8,b8,d7,num]
 refine j7 (X:=Nat) (fun i=>⟨t6 [(0,.val (.list 3 (l.map f8))),(1,.val (.list 3 (l.map f8))),(5,.val (num i))],u1 []⟩) (fun i=>i≤l.length) (fun i=>l.length - i) 0 (Le.mk _ _ ?_ ?_) ?_ ?_
 · simp [upd,num,PV.kill]
 · simp
 · simp
 · intro i hi
   simp [num]
   refine f7 (fun h1=>?_) (fun h1=>?_)
   · have e1:(l.map f8)[i]?.getD .nilptr=f8 l[i]:=by simp [List.getElem?_eq_getElem h1]
     simp [num,h1,e1,f8,tx]
     refine b7 rfl rfl (.inl rfl) (b5q l[i] (hx.2 _ (List.getElem_mem h1))) ?_
     simp
     refine LoopNext.mk (i+1) (by omega) (by omega) (Le.mk _ _ ?_ ?_)
     · simp [num];exact wrap_i64 (by omega) (by omega)
     · simp
   · simp
theorem c8j (x:LGroup) (left:Int) (h0:0≤left) (h1:left≤1048576) (hx:a12 9223372036854775807 x):d8 Tryz.prog 160 [.val (L9 x),.val (num left)] (.ret (.val (num (cut left (a3q x)))) []) []:=by
 refine f6 mixed ok160 rfl (fun _=>rfl) ?_
 unfold ir160
 rw [b6]
 unfold a12 at hx
 obtain ⟨b0,b1⟩:=hx
 unfold a3q
 have w0:IntKind.i64.wrap (left - ((x.name.length:Nat):Int))=left - ((x.name.length:Nat):Int):=wrap_i64 (by omega) (by omega)
 by_cases k0:left - ((x.name.length:Nat):Int) < 0
 · rw [l5 (by omega)]
   simp [d9,f9,j8,b8,d7,L9,tx,num,b9,i6,w0,k0]
 · simp [d9,f9,j8,b8,d7,L9,tx,num,b9,i6,w0,k0]
   refine b7 rfl rfl (.inl rfl) (c1y x.targets (left - (x.name.length:Nat)) (by omega) (by omega) b1) ?_
   by_cases k1:(left - (x.name.length:Nat)) - ((zS S2 x.targets:Nat):Int) < 0
   · first | rw [l5 (by omega),l5 (by omega)] | rw [l5 (by omega)]
     simp [L9,tx,num,b9,i6]
   · first | rw [K9 (by omega),K9 (by omega)] | rw [K9 (by omega)]
     simp [L9,tx,num,b9,i6,k0,k1]
     try omega
theorem c8o (x:LGroup) (hx:a12 1048576 x):d8 Tryz.prog 24 [.val (L9 x),.val (L9 x)] (.ret (.val (.bool true)) []) []:=by
 refine f6 mixed ok24 rfl (fun _=>rfl) ?_
 unfold ir24
 rw [b6]
 unfold a12 at hx
 obtain ⟨b0,b1⟩:=hx
 simp [d9,f9,j8,b8,d7,L9,tx,num,i6]
 refine b7 rfl rfl (.inl rfl) (c11 x.targets b1) ?_
 simp [L9,tx,num,i6]
end Go.Proofs
end
section
namespace Go.Proofs
open Go.PW Go.KP
attribute [local simp] RV.cells RV.one PV.cells PV.solid PV.one G1 i6 L8 K7 RV.ofCells elems PV.killL
variable [GF]
theorem d1d (l:List Int) (left:Int) (h0:0≤left) (h1:left≤1048576) (hl:l.length≤9223372036854775807):d8 Tryz.prog 163 [.val (.list 1 (l.map num)),.val (num left)] (.ret (.val (num (cut left l.length))) []) []:=by
 refine f6 mixed ok163 rfl (fun _=>rfl) ?_
 unfold ir163
 rw [b6]
 have hw:IntKind.i64.wrap (left - (l.length:Int))=left - l.length:=wrap_i64 (by omega) (by omega)
 by_cases h:left - (l.length:Int) < 0
 · rw [l5 (by omega)]
   simp [d9,f9,j8,b8,d7,num,hw,h]
 · rw [K9 (by omega)]
   simp [d9,f9,j8,b8,d7,num,hw,h]
theorem c13 (l:List Int) (hx:l.length≤1048576):d8 Tryz.prog 16 [.val (.list 1 (l.map num)),.val (.list 1 (l.map num))] (.ret (.val (.bool true)) []) []:=by
 refine f6 mixed ok16 rfl (fun _=>rfl) ?_
 unfold ir16
 rw [b6]
 have hl:l.length≤1048576:=hx
 simp [d9,f9,j8,b8,d7,num]
 refine j7 (X:=Nat) (fun i=>⟨t6 [(0,.val (.list 1 (l.map num))),(1,.val (.list 1 (l.map num))),(5,.val (num i))],u1 []⟩) (fun i=>i≤l.length) (fun i=>l.length - i) 0 (Le.mk _ _ ?_ ?_) ?_ ?_
 · simp [upd,num,PV.kill]
 · simp
 · simp
 · intro i hi
   simp [num]
   refine f7 (fun h1=>?_) (fun h1=>?_)
   · have e1:(l.map num)[i]?.getD .nilptr=num l[i]:=by simp [List.getElem?_eq_getElem h1]
     simp [num,h1,e1,tx]
     refine LoopNext.mk (i+1) (by omega) (by omega) (Le.mk _ _ ?_ ?_)
     · simp [num];exact wrap_i64 (by omega) (by omega)
     · simp
   · simp
theorem c42 (x:LReport) (left:Int) (h0:0≤left) (h1:left≤1048576) (hx:X2 9223372036854775807 x):d8 Tryz.prog 294 [.val (i7 x),.val (num left)] (.ret (.val (num (cut left (R6 x)))) []) []:=by
 refine f6 mixed ok294 rfl (fun _=>rfl) ?_
 unfold ir294
 rw [b6]
 unfold X2 at hx
 have b0:=hx
 unfold R6
 have w0:IntKind.i64.wrap (left - ((x.body.length:Nat):Int))=left - ((x.body.length:Nat):Int):=wrap_i64 (by omega) (by omega)
 by_cases k0:left - ((x.body.length:Nat):Int) < 0
 · rw [l5 (by omega)]
   simp [d9,f9,j8,b8,d7,i7,tx,num,b9,i6,w0,k0]
 · rw [K9 (by omega)]
   simp [d9,f9,j8,b8,d7,i7,tx,num,b9,i6,w0,k0]
   try omega
theorem c41 (x:LReport) (hx:X2 1048576 x):d8 Tryz.prog 296 [.val (i7 x)] (.ret (.val (i7 x)) []) []:=by
 refine f6 mixed ok296 rfl (fun _=>rfl) ?_
 unfold ir296
 rw [b6]
 unfold X2 at hx
 have b0:=hx
 simp [d9,f9,j8,b8,d7,i7,tx,num,i6]
 refine (b8i (id:=2) (n:=4) (rs:=[num x.id,num x.born,num x.tries,tx x.body]) ?_ ?_ rfl (by omega)).trans ?_
 · simp
 · simp [tx,num]
 · simp [i7,tx,num,i6]
theorem c45 (x:LReport) (hx:X2 1048576 x):d8 Tryz.prog 297 [.val (i7 x),.val (i7 x)] (.ret (.val (.bool true)) []) []:=by
 refine f6 mixed ok297 rfl (fun _=>rfl) ?_
 unfold ir297
 rw [b6]
 unfold X2 at hx
 have b0:=hx
 simp [d9,f9,j8,b8,d7,i7,tx,num,i6]
theorem c1z (l:List LReport) (left:Int) (h0:0≤left) (h1:left≤1048576) (hx:bdS 9223372036854775807 (X2 9223372036854775807) l):d8 Tryz.prog 225 [.val (.list 4 (l.map i7)),.val (num left)] (.ret (.val (num (cut left (zS R6 l)))) []) []:=by
 refine f6 mixed ok225 rfl (fun _=>rfl) ?_
 unfold ir225
 rw [b6]
 have hl:l.length≤9223372036854775807:=hx.1
 have hw:IntKind.i64.wrap (left - (l.length:Int))=left - l.length:=wrap_i64 (by omega) (by omega)
 have hzs:zS R6 l=l.length+G3 R6 l:=rfl
 by_cases h:left - (l.length:Int) < 0
 · rw [l5 (by omega)]
   simp [d9,f9,j8,b8,d7,num,hw,h]
 · simp [d9,f9,j8,b8,d7,num,hw,h]
   refine j7 (X:=Nat) (fun i=>⟨t6 [(0,.val (.list 4 (l.map i7))),(1,.val (num (left - l.length - (G3 R6 (l.take i):Nat)))),(5,.val (num i))],u1 []⟩) (fun i=>i≤l.length∧0≤left - l.length - (G3 R6 (l.take i):Nat)) (fun i=>l.length - i) 0 (Le.mk _ _ ?_ ?_) ?_ ?_
   · simp [upd,num,G3,PV.kill]
   · simp
   · simp [G3];omega
   · rintro i ⟨hi,hg⟩
     simp [num]
     refine f7 (fun h2=>?_) (fun h2=>?_)
     · have e1:(l.map i7)[i]?.getD .nilptr=i7 l[i]:=by simp [List.getElem?_eq_getElem h2]
       have hsn:G3 R6 (l.take (i+1))=G3 R6 (l.take i)+R6 l[i]:=a09 _ h2
       have hle:=a33 (f:=R6) l (i+1)
       simp [num,h2,e1,i7,tx]
       refine b7 rfl rfl (.inl rfl) (c42 l[i] (left - l.length - (G3 R6 (l.take i):Nat)) (by omega) (by omega) (hx.2 _ (List.getElem_mem h2))) ?_
       by_cases h3:left - (l.length:Int) - (G3 R6 (l.take i):Int) - (R6 l[i]:Int) < 0
       · have c1:cut (left - l.length - (G3 R6 (l.take i):Nat)) (R6 l[i])=-1:=l5 (by omega)
         have c2:cut left (zS R6 l)=-1:=l5 (by omega)
         rw [c1,c2]
         simp [num]
       · have c1:cut (left - l.length - (G3 R6 (l.take i):Nat)) (R6 l[i])=left - l.length - (G3 R6 (l.take i):Nat) - (R6 l[i]:Nat):=K9 (by omega)
         rw [c1]
         simp [num,h3]
         refine LoopNext.mk (i+1) ⟨by omega,by omega⟩ (by omega) (Le.mk _ _ ?_ ?_)
         · simp [num]
           exact ⟨by omega,wrap_i64 (by omega) (by omega)⟩
         · simp
     · have e1:i=l.length:=by omega
       subst e1
       rw [List.take_length] at *
       rw [K9 (by omega)]
       simp [num]
       omega
theorem c12 (l:List LReport) (hx:bdS 1048576 (X2 1048576) l):d8 Tryz.prog 230 [.val (.list 4 (l.map i7)),.val (.list 4 (l.map i7))] (.ret (.val (.bool true)) []) []:=by
 refine f6 mixed ok230 rfl (fun _=>rfl) ?_
 unfold ir230
 rw [b6]
 have hl:l.length≤1048576:=hx.1
 simp [d9,f9,j8,b8,d7,num]
 refine j7 (X:=Nat) (fun i=>⟨t6 [(0,.val (.list 4 (l.map i7))),(1,.val (.list 4 (l.map i7))),(5,.val (num i))],u1 []⟩) (fun i=>i≤l.length) (fun i=>l.length - i) 0 (Le.mk _ _ ?_ ?_) ?_ ?_
 · simp [upd,num,PV.kill]
 · simp
 · simp
 · intro i hi
   simp [num]
   refine f7 (fun h1=>?_) (fun h1=>?_)
   · have e1:(l.map i7)[i]?.getD .nilptr=i7 l[i]:=by simp [List.getElem?_eq_getElem h1]
     simp [num,h1,e1,i7,tx]
     refine b7 rfl rfl (.inl rfl) (c45 l[i] (hx.2 _ (List.getElem_mem h1))) ?_
     simp
     refine LoopNext.mk (i+1) (by omega) (by omega) (Le.mk _ _ ?_ ?_)
     · simp [num];exact wrap_i64 (by omega) (by omega)
     · simp
   · simp
theorem c8h (x:LQueue) (left:Int) (h0:0≤left) (h1:left≤1048576) (hx:a2n 9223372036854775807 x):d8 Tryz.prog 162 [.val (K8 x),.val (num left)] (.ret (.val (num (cut left (a9x x)))) []) []:=by
 refine f6 mixed ok162 rfl (fun _=>rfl) ?_
 unfold ir162
 rw [b6]
 unfold a2n at hx
 obtain ⟨b0,b1⟩:=hx
 unfold a9x
 simp [d9,f9,j8,b8,d7,K8,tx,num,b9,i6]
 refine b7 rfl rfl (.inl rfl) (c1z x.items left (by omega) (by omega) b0) ?_
 by_cases k0:left - ((zS R6 x.items:Nat):Int) < 0
 · first | rw [l5 (by omega),l5 (by omega)] | rw [l5 (by omega)]
   simp [K8,tx,num,b9,i6]
 · rw [K9 (show ¬ left - ((zS R6 x.items:Nat):Int) < 0 by omega)]
   simp [K8,tx,num,b9,i6,k0]
   refine b7 rfl rfl (.inl rfl) (a8b x.recent (left - (zS R6 x.items:Nat)) (by omega) (by omega) b1) ?_
   by_cases k1:(left - (zS R6 x.items:Nat)) - ((zS List.length x.recent:Nat):Int) < 0
   · first | rw [l5 (by omega),l5 (by omega)] | rw [l5 (by omega)]
     simp [K8,tx,num,b9,i6]
   · first | rw [K9 (by omega),K9 (by omega)] | rw [K9 (by omega)]
     simp [K8,tx,num,b9,i6,k0,k1]
     try omega
theorem c8m (x:LQueue) (hx:a2n 1048576 x):d8 Tryz.prog 169 [.val (K8 x),.val (K8 x)] (.ret (.val (.bool true)) []) []:=by
 refine f6 mixed ok169 rfl (fun _=>rfl) ?_
 unfold ir169
 rw [b6]
 unfold a2n at hx
 obtain ⟨b0,b1⟩:=hx
 simp [d9,f9,j8,b8,d7,K8,tx,num,i6]
 refine b7 rfl rfl (.inl rfl) (c12 x.items b0) ?_
 simp [K8,tx,num,i6]
 refine b7 rfl rfl (.inl rfl) (a8c x.recent b1) ?_
 simp [K8,tx,num,i6]
theorem d1c (x:LPeer) (left:Int) (h0:0≤left) (h1:left≤1048576) (hx:a1d 9223372036854775807 x):d8 Tryz.prog 224 [.val (F9 x),.val (num left)] (.ret (.val (num (cut left (Z1 x)))) []) []:=by
 refine f6 mixed ok224 rfl (fun _=>rfl) ?_
 unfold ir224
 rw [b6]
 unfold a1d at hx
 have b0:=hx
 unfold Z1
 simp [d9,f9,j8,b8,d7,f8,F9,tx,num,b9,i6]
 refine b7 rfl rfl (.inl rfl) (b5p x.target left (by omega) (by omega) b0) ?_
 by_cases k0:left - ((S2 x.target:Nat):Int) < 0
 · first | rw [l5 (by omega),l5 (by omega)] | rw [l5 (by omega)]
   simp [f8,F9,tx,num,b9,i6]
 · first | rw [K9 (by omega),K9 (by omega)] | rw [K9 (by omega)]
   simp [f8,F9,tx,num,b9,i6,k0]
   try omega
theorem d08 (x:LPeer) (hx:a1d 1048576 x):d8 Tryz.prog 227 [.val (F9 x)] (.ret (.val (F9 x)) []) []:=by
 refine f6 mixed ok227 rfl (fun _=>rfl) ?_
 unfold ir227
 rw [b6]
 unfold a1d at hx
 have b0:=hx
 simp [d9,f9,j8,b8,d7,f8,F9,tx,num,i6]
 refine b7 rfl rfl (.inl rfl) (b5n x.target b0) ?_
 simp [f8,F9,tx,num,i6]
 refine (b8i (id:=2) (n:=6) (rs:=[tx x.target.url,num x.target.prio,num x.target.weight,num x.fails,num x.retry,.bool x.gone]) ?_ ?_ rfl (by omega)).trans ?_
 · simp
 · simp [tx,num]
 · simp [f8,F9,tx,num,i6]
theorem d1h (x:LPeer) (hx:a1d 1048576 x):d8 Tryz.prog 229 [.val (F9 x),.val (F9 x)] (.ret (.val (.bool true)) []) []:=by
 refine f6 mixed ok229 rfl (fun _=>rfl) ?_
 unfold ir229
 rw [b6]
 unfold a1d at hx
 have b0:=hx
 simp [d9,f9,j8,b8,d7,f8,F9,tx,num,i6]
 refine b7 rfl rfl (.inl rfl) (b5q x.target b0) ?_
 simp [f8,F9,tx,num,i6]
theorem c8i (l:List LPeer) (left:Int) (h0:0≤left) (h1:left≤1048576) (hx:bdS 9223372036854775807 (a1d 9223372036854775807) l):d8 Tryz.prog 161 [.val (.list 6 (l.map F9)),.val (num left)] (.ret (.val (num (cut left (zS Z1 l)))) []) []:=by
 refine f6 mixed ok161 rfl (fun _=>rfl) ?_
 unfold ir161
 rw [b6]
 have hl:l.length≤9223372036854775807:=hx.1
 have hw:IntKind.i64.wrap (left - (l.length:Int))=left - l.length:=wrap_i64 (by omega) (by omega)
 have hzs:zS Z1 l=l.length+G3 Z1 l:=rfl
 by_cases h:left - (l.length:Int) < 0
 · rw [l5 (by omega)]
   simp [d9,f9,j8,b8,d7,num,hw,h]
 · simp [d9,f9,j8,b8,d7,num,hw,h]
   refine j7 (X:=Nat) (fun i=>⟨t6 [(0,.val (.list 6 (l.map F9))),(1,.val (num (left - l.length - (G3 Z1 (l.take i):Nat)))),(5,.val (num i))],u1 []⟩) (fun i=>i≤l.length∧0≤left - l.length - (G3 Z1 (l.take i):Nat)) (fun i=>l.length - i) 0 (Le.mk _ _ ?_ ?_) ?_ ?_
   · simp [upd,num,G3,PV.kill]
   · simp
   · simp [G3];omega
   · rintro i ⟨hi,hg⟩
     simp [num]
     refine f7 (fun h2=>?_) (fun h2=>?_)
     · have e1:(l.map F9)[i]?.getD .nilptr=F9 l[i]:=by simp [List.getElem?_eq_getElem h2]
       have hsn:G3 Z1 (l.take (i+1))=G3 Z1 (l.take i)+Z1 l[i]:=a09 _ h2
       have hle:=a33 (f:=Z1) l (i+1)
       simp [num,h2,e1,f8,F9,tx]
       refine b7 rfl rfl (.inl rfl) (d1c l[i] (left - l.length - (G3 Z1 (l.take i):Nat)) (by omega) (by omega) (hx.2 _ (List.getElem_mem h2))) ?_
       by_cases h3:left - (l.length:Int) - (G3 Z1 (l.take i):Int) - (Z1 l[i]:Int) < 0
       · have c1:cut (left - l.length - (G3 Z1 (l.take i):Nat)) (Z1 l[i])=-1:=l5 (by omega)
         have c2:cut left (zS Z1 l)=-1:=l5 (by omega)
         rw [c1,c2]
         simp [num]
       · have c1:cut (left - l.length - (G3 Z1 (l.take i):Nat)) (Z1 l[i])=left - l.length - (G3 Z1 (l.take i):Nat) - (Z1 l[i]:Nat):=K9 (by omega)
         rw [c1]
         simp [num,h3]
         refine LoopNext.mk (i+1) ⟨by omega,by omega⟩ (by omega) (Le.mk _ _ ?_ ?_)
         · simp [num]
           exact ⟨by omega,wrap_i64 (by omega) (by omega)⟩
         · simp
     · have e1:i=l.length:=by omega
       subst e1
       rw [List.take_length] at *
       rw [K9 (by omega)]
       simp [num]
       omega
theorem c8n (l:List LPeer) (hx:bdS 1048576 (a1d 1048576) l):d8 Tryz.prog 168 [.val (.list 6 (l.map F9)),.val (.list 6 (l.map F9))] (.ret (.val (.bool true)) []) []:=by
 refine f6 mixed ok168 rfl (fun _=>rfl) ?_
 unfold ir168
 rw [b6]
 have hl:l.length≤1048576:=hx.1
 simp [d9,f9,j8,b8,d7,num]
 refine j7 (X:=Nat) (fun i=>⟨t6 [(0,.val (.list 6 (l.map F9))),(1,.val (.list 6 (l.map F9))),(5,.val (num i))],u1 []⟩) (fun i=>i≤l.length) (fun i=>l.length - i) 0 (Le.mk _ _ ?_ ?_) ?_ ?_
 · simp [upd,num,PV.kill]
 · simp
 · simp
 · intro i hi
   simp [num]
   refine f7 (fun h1=>?_) (fun h1=>?_)
   · have e1:(l.map F9)[i]?.getD .nilptr=F9 l[i]:=by simp [List.getElem?_eq_getElem h1]
     simp [num,h1,e1,f8,F9,tx]
     refine b7 rfl rfl (.inl rfl) (d1h l[i] (hx.2 _ (List.getElem_mem h1))) ?_
     simp
     refine LoopNext.mk (i+1) (by omega) (by omega) (Le.mk _ _ ?_ ?_)
     · simp [num];exact wrap_i64 (by omega) (by omega)
     · simp
   · simp
theorem c10 (x:LChannel) (left:Int) (h0:0≤left) (h1:left≤1048576) (hx:Q8 9223372036854775807 x):d8 Tryz.prog 97 [.val (j5 x),.val (num left)] (.ret (.val (num (cut left (L5 x)))) []) []:=by
 refine f6 mixed ok97 rfl (fun _=>rfl) ?_
 unfold ir97
 rw [b6]
 unfold Q8 at hx
 obtain ⟨b0,b1,b2⟩:=hx
 unfold L5
 simp [d9,f9,j8,b8,d7,L9,K8,j5,tx,num,b9,i6]
 refine b7 rfl rfl (.inl rfl) (c8j x.group left (by omega) (by omega) b0) ?_
 by_cases k0:left - ((a3q x.group:Nat):Int) < 0
 · first | rw [l5 (by omega),l5 (by omega)] | rw [l5 (by omega)]
   simp [L9,K8,j5,tx,num,b9,i6]
 · rw [K9 (show ¬ left - ((a3q x.group:Nat):Int) < 0 by omega)]
   simp [L9,K8,j5,tx,num,b9,i6,k0]
   refine b7 rfl rfl (.inl rfl) (c8i x.peers (left - (a3q x.group:Nat)) (by omega) (by omega) b1) ?_
   by_cases k1:(left - (a3q x.group:Nat)) - ((zS Z1 x.peers:Nat):Int) < 0
   · first | rw [l5 (by omega),l5 (by omega)] | rw [l5 (by omega)]
     simp [L9,K8,j5,tx,num,b9,i6]
   · rw [K9 (show ¬ (left - (a3q x.group:Nat)) - ((zS Z1 x.peers:Nat):Int) < 0 by omega)]
     simp [L9,K8,j5,tx,num,b9,i6,k0,k1]
     refine b7 rfl rfl (.inl rfl) (c8h x.queue (left - (a3q x.group:Nat) - (zS Z1 x.peers:Nat)) (by omega) (by omega) b2) ?_
     by_cases k2:(left - (a3q x.group:Nat) - (zS Z1 x.peers:Nat)) - ((a9x x.queue:Nat):Int) < 0
     · first | rw [l5 (by omega),l5 (by omega)] | rw [l5 (by omega)]
       simp [L9,K8,j5,tx,num,b9,i6]
     · first | rw [K9 (by omega),K9 (by omega)] | rw [K9 (by omega)]
       simp [L9,K8,j5,tx,num,b9,i6,k0,k1,k2]
       try omega
theorem c14 (x:LChannel) (hx:Q8 1048576 x):d8 Tryz.prog 105 [.val (j5 x),.val (j5 x)] (.ret (.val (.bool true)) []) []:=by
 refine f6 mixed ok105 rfl (fun _=>rfl) ?_
 unfold ir105
 rw [b6]
 unfold Q8 at hx
 obtain ⟨b0,b1,b2⟩:=hx
 simp [d9,f9,j8,b8,d7,L9,K8,j5,tx,num,i6]
 refine b7 rfl rfl (.inl rfl) (c8o x.group b0) ?_
 simp [L9,K8,j5,tx,num,i6]
 refine b7 rfl rfl (.inl rfl) (c8n x.peers b1) ?_
 simp [L9,K8,j5,tx,num,i6]
 refine b7 rfl rfl (.inl rfl) (c8m x.queue b2) ?_
 simp [L9,K8,j5,tx,num,i6]
theorem b9l (l:List LChannel) (left:Int) (h0:0≤left) (h1:left≤1048576) (hx:bdS 9223372036854775807 (Q8 9223372036854775807) l):d8 Tryz.prog 46 [.val (.list 6 (l.map j5)),.val (num left)] (.ret (.val (num (cut left (zS L5 l)))) []) []:=by
 refine f6 mixed ok46 rfl (fun _=>rfl) ?_
 unfold ir46
 rw [b6]
 have hl:l.length≤9223372036854775807:=hx.1
 have hw:IntKind.i64.wrap (left - (l.length:Int))=left - l.length:=wrap_i64 (by omega) (by omega)
 have hzs:zS L5 l=l.length+G3 L5 l:=rfl
 by_cases h:left - (l.length:Int) < 0
 · rw [l5 (by omega)]
   simp [d9,f9,j8,b8,d7,num,hw,h]
 · simp [d9,f9,j8,b8,d7,num,hw,h]
   refine j7 (X:=Nat) (fun i=>⟨t6 [(0,.val (.list 6 (l.map j5))),(1,.val (num (left - l.length - (G3 L5 (l.take i):Nat)))),(5,.val (num i))],u1 []⟩) (fun i=>i≤l.length∧0≤left - l.length - (G3 L5 (l.take i):Nat)) (fun i=>l.length - i) 0 (Le.mk _ _ ?_ ?_) ?_ ?_
   · simp [upd,num,G3,PV.kill]
   · simp
   · simp [G3];omega
   · rintro i ⟨hi,hg⟩
     simp [num]
     refine f7 (fun h2=>?_) (fun h2=>?_)
     · have e1:(l.map j5)[i]?.getD .nilptr=j5 l[i]:=by simp [List.getElem?_eq_getElem h2]
       have hsn:G3 L5 (l.take (i+1))=G3 L5 (l.take i)+L5 l[i]:=a09 _ h2
       have hle:=a33 (f:=L5) l (i+1)
       simp [num,h2,e1,L9,K8,j5,tx]
       refine b7 rfl rfl (.inl rfl) (c10 l[i] (left - l.length - (G3 L5 (l.take i):Nat)) (by omega) (by omega) (hx.2 _ (List.getElem_mem h2))) ?_
       by_cases h3:left - (l.length:Int) - (G3 L5 (l.take i):Int) - (L5 l[i]:Int) < 0
       · have c1:cut (left - l.length - (G3 L5 (l.take i):Nat)) (L5 l[i])=-1:=l5 (by omega)
         have c2:cut left (zS L5 l)=-1:=l5 (by omega)
         rw [c1,c2]
         simp [num]
       · have c1:cut (left - l.length - (G3 L5 (l.take i):Nat)) (L5 l[i])=left - l.length - (G3 L5 (l.take i):Nat) - (L5 l[i]:Nat):=K9 (by omega)
         rw [c1]
         simp [num,h3]
         refine LoopNext.mk (i+1) ⟨by omega,by omega⟩ (by omega) (Le.mk _ _ ?_ ?_)
         · simp [num]
           exact ⟨by omega,wrap_i64 (by omega) (by omega)⟩
         · simp
     · have e1:i=l.length:=by omega
       subst e1
       rw [List.take_length] at *
       rw [K9 (by omega)]
       simp [num]
       omega
theorem b9m (l:List LChannel) (hx:bdS 1048576 (Q8 1048576) l):d8 Tryz.prog 56 [.val (.list 6 (l.map j5)),.val (.list 6 (l.map j5))] (.ret (.val (.bool true)) []) []:=by
 refine f6 mixed ok56 rfl (fun _=>rfl) ?_
 unfold ir56
 rw [b6]
 have hl:l.length≤1048576:=hx.1
 simp [d9,f9,j8,b8,d7,num]
 refine j7 (X:=Nat) (fun i=>⟨t6 [(0,.val (.list 6 (l.map j5))),(1,.val (.list 6 (l.map j5))),(5,.val (num i))],u1 []⟩) (fun i=>i≤l.length) (fun i=>l.length - i) 0 (Le.mk _ _ ?_ ?_) ?_ ?_
 · simp [upd,num,PV.kill]
 · simp
 · simp
 · intro i hi
   simp [num]
   refine f7 (fun h1=>?_) (fun h1=>?_)
   · have e1:(l.map j5)[i]?.getD .nilptr=j5 l[i]:=by simp [List.getElem?_eq_getElem h1]
     simp [num,h1,e1,L9,K8,j5,tx]
     refine b7 rfl rfl (.inl rfl) (c14 l[i] (hx.2 _ (List.getElem_mem h1))) ?_
     simp
     refine LoopNext.mk (i+1) (by omega) (by omega) (Le.mk _ _ ?_ ?_)
     · simp [num];exact wrap_i64 (by omega) (by omega)
     · simp
   · simp
theorem c44 (l:List LEntry) (left:Int) (h0:0≤left) (h1:left≤1048576) (hl:l.length≤9223372036854775807):d8 Tryz.prog 47 [.val (.list 3 (l.map G0)),.val (num left)] (.ret (.val (num (cut left l.length))) []) []:=by
 refine f6 mixed ok47 rfl (fun _=>rfl) ?_
 unfold ir47
 rw [b6]
 have hw:IntKind.i64.wrap (left - (l.length:Int))=left - l.length:=wrap_i64 (by omega) (by omega)
 by_cases h:left - (l.length:Int) < 0
 · rw [l5 (by omega)]
   simp [d9,f9,j8,b8,d7,num,hw,h]
 · rw [K9 (by omega)]
   simp [d9,f9,j8,b8,d7,num,hw,h]
theorem c8e (x:LEntry) (hx:b1p 1048576 x):d8 Tryz.prog 102 [.val (G0 x)] (.ret (.val (G0 x)) []) []:=by
 refine f6 mixed ok102 rfl (fun _=>rfl) ?_
 unfold ir102
 rw [b6]
 simp [d9,f9,j8,b8,d7,G0,tx,num,i6]
 refine (b8i (id:=2) (n:=3) (rs:=[num x.kind,num x.id,num x.at_]) ?_ ?_ rfl (by omega)).trans ?_
 · simp
 · simp [tx,num]
 · simp [G0,tx,num,i6]
theorem c8p (x:LEntry) (hx:b1p 1048576 x):d8 Tryz.prog 106 [.val (G0 x),.val (G0 x)] (.ret (.val (.bool true)) []) []:=by
 refine f6 mixed ok106 rfl (fun _=>rfl) ?_
 unfold ir106
 rw [b6]
 simp [d9,f9,j8,b8,d7,G0,tx,num,i6]
theorem c48 (l:List LEntry) (hx:l.length≤1048576):d8 Tryz.prog 57 [.val (.list 3 (l.map G0)),.val (.list 3 (l.map G0))] (.ret (.val (.bool true)) []) []:=by
 refine f6 mixed ok57 rfl (fun _=>rfl) ?_
 unfold ir57
 rw [b6]
 have hl:l.length≤1048576:=hx
 simp [d9,f9,j8,b8,d7,num]
 refine j7 (X:=Nat) (fun i=>⟨t6 [(0,.val (.list 3 (l.map G0))),(1,.val (.list 3 (l.map G0))),(5,.val (num i))],u1 []⟩) (fun i=>i≤l.length) (fun i=>l.length - i) 0 (Le.mk _ _ ?_ ?_) ?_ ?_
 · simp [upd,num,PV.kill]
 · simp
 · simp
 · intro i hi
   simp [num]
   refine f7 (fun h1=>?_) (fun h1=>?_)
   · have e1:(l.map G0)[i]?.getD .nilptr=G0 l[i]:=by simp [List.getElem?_eq_getElem h1]
     simp [num,h1,e1,G0,tx]
     refine b7 rfl rfl (.inl rfl) (c8p l[i] trivial) ?_
     simp
     refine LoopNext.mk (i+1) (by omega) (by omega) (Le.mk _ _ ?_ ?_)
     · simp [num];exact wrap_i64 (by omega) (by omega)
     · simp
   · simp
theorem d09 (x:LWire) (left:Int) (h0:0≤left) (h1:left≤1048576) (hx:Z4 9223372036854775807 x):d8 Tryz.prog 98 [.val (H5 x),.val (num left)] (.ret (.val (num (cut left (Z7 x)))) []) []:=by
 refine f6 mixed ok98 rfl (fun _=>rfl) ?_
 unfold ir98
 rw [b6]
 unfold Z4 at hx
 obtain ⟨b0,b1,b2,b3⟩:=hx
 unfold Z7
 have w0:IntKind.i64.wrap (left - ((x.group.length:Nat):Int))=left - ((x.group.length:Nat):Int):=wrap_i64 (by omega) (by omega)
 by_cases k0:left - ((x.group.length:Nat):Int) < 0
 · rw [l5 (by omega)]
   simp [d9,f9,j8,b8,d7,H5,tx,num,b9,i6,w0,k0]
 · skip
   have w1:IntKind.i64.wrap ((left - (x.group.length:Nat)) - ((x.url.length:Nat):Int))=(left - (x.group.length:Nat)) - ((x.url.length:Nat):Int):=wrap_i64 (by omega) (by omega)
   by_cases k1:(left - (x.group.length:Nat)) - ((x.url.length:Nat):Int) < 0
   · rw [l5 (by omega)]
     simp [d9,f9,j8,b8,d7,H5,tx,num,b9,i6,w0,w1,k0,k1]
   · simp [d9,f9,j8,b8,d7,H5,tx,num,b9,i6,w0,w1,k0,k1]
     refine b7 rfl rfl (.inl rfl) (d1d x.ids (left - (x.group.length:Nat) - (x.url.length:Nat)) (by omega) (by omega) b2) ?_
     by_cases k2:(left - (x.group.length:Nat) - (x.url.length:Nat)) - ((x.ids.length:Nat):Int) < 0
     · first | rw [l5 (by omega),l5 (by omega)] | rw [l5 (by omega)]
       simp [H5,tx,num,b9,i6]
     · rw [K9 (show ¬ (left - (x.group.length:Nat) - (x.url.length:Nat)) - ((x.ids.length:Nat):Int) < 0 by omega)]
       simp [H5,tx,num,b9,i6,k0,k1,k2]
       have w3:IntKind.i64.wrap ((left - (x.group.length:Nat) - (x.url.length:Nat) - (x.ids.length:Nat)) - ((x.body.length:Nat):Int))=(left - (x.group.length:Nat) - (x.url.length:Nat) - (x.ids.length:Nat)) - ((x.body.length:Nat):Int):=wrap_i64 (by omega) (by omega)
       by_cases k3:(left - (x.group.length:Nat) - (x.url.length:Nat) - (x.ids.length:Nat)) - ((x.body.length:Nat):Int) < 0
       · rw [l5 (by omega)]
         simp [H5,tx,num,b9,i6,w0,w1,w3,k0,k1,k2,k3]
       · rw [K9 (by omega)]
         simp [H5,tx,num,b9,i6,w0,w1,w3,k0,k1,k2,k3]
         try omega
theorem d1e (x:LWire) (hx:Z4 1048576 x):d8 Tryz.prog 107 [.val (H5 x),.val (H5 x)] (.ret (.val (.bool true)) []) []:=by
 refine f6 mixed ok107 rfl (fun _=>rfl) ?_
 unfold ir107
 rw [b6]
 unfold Z4 at hx
 obtain ⟨b0,b1,b2,b3⟩:=hx
 simp [d9,f9,j8,b8,d7,H5,tx,num,i6]
 refine b7 rfl rfl (.inl rfl) (c13 x.ids b2) ?_
 simp [H5,tx,num,i6]
theorem c8f (l:List LWire) (left:Int) (h0:0≤left) (h1:left≤1048576) (hx:bdS 9223372036854775807 (Z4 9223372036854775807) l):d8 Tryz.prog 48 [.val (.list 7 (l.map H5)),.val (num left)] (.ret (.val (num (cut left (zS Z7 l)))) []) []:=by
 refine f6 mixed ok48 rfl (fun _=>rfl) ?_
 unfold ir48
 rw [b6]
 have hl:l.length≤9223372036854775807:=hx.1
 have hw:IntKind.i64.wrap (left - (l.length:Int))=left - l.length:=wrap_i64 (by omega) (by omega)
 have hzs:zS Z7 l=l.length+G3 Z7 l:=rfl
 by_cases h:left - (l.length:Int) < 0
 · rw [l5 (by omega)]
   simp [d9,f9,j8,b8,d7,num,hw,h]
 · simp [d9,f9,j8,b8,d7,num,hw,h]
   refine j7 (X:=Nat) (fun i=>⟨t6 [(0,.val (.list 7 (l.map H5))),(1,.val (num (left - l.length - (G3 Z7 (l.take i):Nat)))),(5,.val (num i))],u1 []⟩) (fun i=>i≤l.length∧0≤left - l.length - (G3 Z7 (l.take i):Nat)) (fun i=>l.length - i) 0 (Le.mk _ _ ?_ ?_) ?_ ?_
   · simp [upd,num,G3,PV.kill]
   · simp
   · simp [G3];omega
   · rintro i ⟨hi,hg⟩
     simp [num]
     refine f7 (fun h2=>?_) (fun h2=>?_)
     · have e1:(l.map H5)[i]?.getD .nilptr=H5 l[i]:=by simp [List.getElem?_eq_getElem h2]
       have hsn:G3 Z7 (l.take (i+1))=G3 Z7 (l.take i)+Z7 l[i]:=a09 _ h2
       have hle:=a33 (f:=Z7) l (i+1)
       simp [num,h2,e1,H5,tx]
       refine b7 rfl rfl (.inl rfl) (d09 l[i] (left - l.length - (G3 Z7 (l.take i):Nat)) (by omega) (by omega) (hx.2 _ (List.getElem_mem h2))) ?_
       by_cases h3:left - (l.length:Int) - (G3 Z7 (l.take i):Int) - (Z7 l[i]:Int) < 0
       · have c1:cut (left - l.length - (G3 Z7 (l.take i):Nat)) (Z7 l[i])=-1:=l5 (by omega)
         have c2:cut left (zS Z7 l)=-1:=l5 (by omega)
         rw [c1,c2]
         simp [num]
       · have c1:cut (left - l.length - (G3 Z7 (l.take i):Nat)) (Z7 l[i])=left - l.length - (G3 Z7 (l.take i):Nat) - (Z7 l[i]:Nat):=K9 (by omega)
         rw [c1]
         simp [num,h3]
         refine LoopNext.mk (i+1) ⟨by omega,by omega⟩ (by omega) (Le.mk _ _ ?_ ?_)
         · simp [num]
           exact ⟨by omega,wrap_i64 (by omega) (by omega)⟩
         · simp
     · have e1:i=l.length:=by omega
       subst e1
       rw [List.take_length] at *
       rw [K9 (by omega)]
       simp [num]
       omega
theorem c8k (l:List LWire) (hx:bdS 1048576 (Z4 1048576) l):d8 Tryz.prog 58 [.val (.list 7 (l.map H5)),.val (.list 7 (l.map H5))] (.ret (.val (.bool true)) []) []:=by
 refine f6 mixed ok58 rfl (fun _=>rfl) ?_
 unfold ir58
 rw [b6]
 have hl:l.length≤1048576:=hx.1
 simp [d9,f9,j8,b8,d7,num]
 refine j7 (X:=Nat) (fun i=>⟨t6 [(0,.val (.list 7 (l.map H5))),(1,.val (.list 7 (l.map H5))),(5,.val (num i))],u1 []⟩) (fun i=>i≤l.length) (fun i=>l.length - i) 0 (Le.mk _ _ ?_ ?_) ?_ ?_
 · simp [upd,num,PV.kill]
 · simp
 · simp
 · intro i hi
   simp [num]
   refine f7 (fun h1=>?_) (fun h1=>?_)
   · have e1:(l.map H5)[i]?.getD .nilptr=H5 l[i]:=by simp [List.getElem?_eq_getElem h1]
     simp [num,h1,e1,H5,tx]
     refine b7 rfl rfl (.inl rfl) (d1e l[i] (hx.2 _ (List.getElem_mem h1))) ?_
     simp
     refine LoopNext.mk (i+1) (by omega) (by omega) (Le.mk _ _ ?_ ?_)
     · simp [num];exact wrap_i64 (by omega) (by omega)
     · simp
   · simp
theorem d1b (x:LPipe) (left:Int) (h0:0≤left) (h1:left≤1048576) (hx:a1c 9223372036854775807 x):d8 Tryz.prog 9 [.val (L4 x),.val (num left)] (.ret (.val (num (cut left (b37 x)))) []) []:=by
 refine f6 mixed ok9 rfl (fun _=>rfl) ?_
 unfold ir9
 rw [b6]
 unfold a1c at hx
 obtain ⟨b0,b1,b2,b3⟩:=hx
 unfold b37
 simp [d9,f9,j8,b8,d7,w8,L4,tx,num,b9,i6]
 refine b7 rfl rfl (.inl rfl) (b9l x.channels left (by omega) (by omega) b0) ?_
 by_cases k0:left - ((zS L5 x.channels:Nat):Int) < 0
 · first | rw [l5 (by omega),l5 (by omega)] | rw [l5 (by omega)]
   simp [w8,L4,tx,num,b9,i6]
 · rw [K9 (show ¬ left - ((zS L5 x.channels:Nat):Int) < 0 by omega)]
   simp [w8,L4,tx,num,b9,i6,k0]
   refine b7 rfl rfl (.inl rfl) (c43 x.policy (left - (zS L5 x.channels:Nat)) (by omega) (by omega) b1) ?_
   by_cases k1:(left - (zS L5 x.channels:Nat)) - ((a1v x.policy:Nat):Int) < 0
   · first | rw [l5 (by omega),l5 (by omega)] | rw [l5 (by omega)]
     simp [w8,L4,tx,num,b9,i6]
   · rw [K9 (show ¬ (left - (zS L5 x.channels:Nat)) - ((a1v x.policy:Nat):Int) < 0 by omega)]
     simp [w8,L4,tx,num,b9,i6,k0,k1]
     refine b7 rfl rfl (.inl rfl) (c44 x.log (left - (zS L5 x.channels:Nat) - (a1v x.policy:Nat)) (by omega) (by omega) b2) ?_
     by_cases k2:(left - (zS L5 x.channels:Nat) - (a1v x.policy:Nat)) - ((x.log.length:Nat):Int) < 0
     · first | rw [l5 (by omega),l5 (by omega)] | rw [l5 (by omega)]
       simp [w8,L4,tx,num,b9,i6]
     · rw [K9 (show ¬ (left - (zS L5 x.channels:Nat) - (a1v x.policy:Nat)) - ((x.log.length:Nat):Int) < 0 by omega)]
       simp [w8,L4,tx,num,b9,i6,k0,k1,k2]
       refine b7 rfl rfl (.inl rfl) (c8f x.wires (left - (zS L5 x.channels:Nat) - (a1v x.policy:Nat) - (x.log.length:Nat)) (by omega) (by omega) b3) ?_
       by_cases k3:(left - (zS L5 x.channels:Nat) - (a1v x.policy:Nat) - (x.log.length:Nat)) - ((zS Z7 x.wires:Nat):Int) < 0
       · first | rw [l5 (by omega),l5 (by omega)] | rw [l5 (by omega)]
         simp [w8,L4,tx,num,b9,i6]
       · first | rw [K9 (by omega),K9 (by omega)] | rw [K9 (by omega)]
         simp [w8,L4,tx,num,b9,i6,k0,k1,k2,k3]
         try omega
theorem d1g (x:LPipe) (hx:a1c 1048576 x):d8 Tryz.prog 13 [.val (L4 x),.val (L4 x)] (.ret (.val (.bool true)) []) []:=by
 refine f6 mixed ok13 rfl (fun _=>rfl) ?_
 unfold ir13
 rw [b6]
 unfold a1c at hx
 obtain ⟨b0,b1,b2,b3⟩:=hx
 simp [d9,f9,j8,b8,d7,w8,L4,tx,num,i6]
 refine b7 rfl rfl (.inl rfl) (b9m x.channels b0) ?_
 simp [w8,L4,tx,num,i6]
 refine b7 rfl rfl (.inl rfl) (c47 x.policy b1) ?_
 simp [w8,L4,tx,num,i6]
 refine b7 rfl rfl (.inl rfl) (c48 x.log b2) ?_
 simp [w8,L4,tx,num,i6]
 refine b7 rfl rfl (.inl rfl) (c8k x.wires b3) ?_
 simp [w8,L4,tx,num,i6]
end Go.Proofs
end
section
namespace Go.Proofs
open Go.PW Go.KP
attribute [local simp] RV.cells RV.one PV.cells PV.solid PV.one G1 i6 L8 K7 RV.ofCells elems PV.killL
variable [GF]
theorem b5d (r:LReport) (b1 b2 b3 b4:Bool) (h1:d8 Tryz.prog 108 [.val (.int .i64 r.id),.val (.int .i64 1),.val (.int .i64 1000000)] (.ret (.val (.bool b1)) []) []) (h2:d8 Tryz.prog 108 [.val (.int .i64 r.born),.val (.int .i64 0),.val (.int .i64 1000000)] (.ret (.val (.bool b2)) []) [])
 (h3:d8 Tryz.prog 108 [.val (.int .i64 r.tries),.val (.int .i64 0),.val (.int .i64 3)] (.ret (.val (.bool b3)) []) []) (h4:d8 Tryz.prog 108 [.val (.int .i64 r.body.length),.val (.int .i64 1),.val (.int .i64 8000)] (.ret (.val (.bool b4)) []) []) :
 d8 Tryz.prog 233 [.val (i7 r)] (.ret (.val (.bool (b1 && b2 && b3 && b4))) []) []:=by
 refine f6 mixed ok233 rfl (fun _=>rfl) ?_
 unfold ir233
 rw [b6]
 simp [d9,f9,j8,b8,d7,i7,tx,num,b9]
 refine b7 rfl rfl (.inl rfl) h1 ?_
 cases b1 with
 | false=>simp
 | true=>
  simp [num,b9]
  refine b7 rfl rfl (.inl rfl) h2 ?_
  cases b2 with
  | false=>simp
  | true=>
   simp [num,b9]
   refine b7 rfl rfl (.inl rfl) h3 ?_
   cases b3 with
   | false=>simp
   | true=>
    simp [num,b9]
    refine b7 rfl rfl (.inl rfl) h4 ?_
    cases b4<;>simp
theorem c2p (r:LReport):d8 Tryz.prog 233 [.val (i7 r)] (.ret (.val (.bool (Z5 r))) []) []:=by
 have h:=b5d r _ _ _ _ (U0 .i64 r.id 1 1000000) (U0 .i64 r.born 0 1000000) (U0 .i64 r.tries 0 3) (U0 .i64 r.body.length 1 8000)
 have q:(1≤r.body.length∧r.body.length≤8000)↔((1:Int)≤r.body.length∧(r.body.length:Int)≤8000):=by omega
 unfold Z5
 rw [decide_eq_decide.2 q]
 exact h
theorem c_l08At (l:List LChannel) (name:Tx) (hl:l.length < 1099511627776):d8 Tryz.prog 109 [.val (.list 6 (l.map j5)),.val (tx name)] (.ret (.val (num (a07 l fun r=>decide (r.group.name=name)))) []) []:=by
 refine f6 mixed ok109 rfl (fun _=>rfl) ?_
 unfold ir109
 rw [b6]
 simp [d9,f9,j8,b8,d7,num]
 refine j7 (X:=Nat) (fun i=>⟨t6 [(0,.val (.list 6 (l.map j5))),(1,.val (tx name)),(5,.val (num i))],u1 []⟩) (fun i=>i≤l.length∧∀ k (hk:k < i) (hk':k < l.length),l[k].group.name≠name) (fun i=>l.length - i) 0 (Le.mk _ _ ?_ ?_) ?_ ?_
 · simp [upd,num]
 · simp
 · simp
 · rintro i ⟨hi,hne⟩
   simp [num]
   refine f7 (fun h1=>?_) (fun h1=>?_)
   · have e1:(l.map j5)[i]?.getD .nilptr=j5 l[i]:=by simp [List.getElem?_eq_getElem h1]
     simp [num,h1,e1,j5,tx,L2]
     by_cases hu:l[i].group.name=name
     · have hh:a07 l (fun r=>decide (r.group.name=name))=i:=a0e h1 (by simp [hu]) (fun k hk=>by simp [hne k hk (by omega)])
       simp [hu,hh,num]
     · simp [hu]
       refine LoopNext.mk (i+1) ⟨by omega,fun k hk hk'=>?_⟩ (by omega) (Le.mk _ _ ?_ ?_)
       · by_cases e:k=i
         · subst e;exact hu
         · exact hne k (by omega) hk'
       · simp [num,tx];exact wrap_i64 (by omega) (by omega)
       · simp
   · have e:i=l.length:=by omega
     have hh:a07 l (fun r=>decide (r.group.name=name))=-1:=Y1 (fun k hk=>by simp [hne k (by omega) hk])
     simp [hh,num]
theorem c_l06OK (q:LQueue) (hb:a2n 1048576 q):d8 Tryz.prog 172 [.val (K8 q)] (.ret (.val (.bool (S8 q))) []) []:=by
 refine f6 mixed ok172 rfl (fun _=>rfl) ?_
 unfold ir172
 rw [b6]
 by_cases h5:q.items.length≤5
 rotate_left
 · have h5':(5:Int) < q.items.length:=by omega
   have:S8 q=false:=by unfold S8;rw [decide_eq_false h5];rfl
   simp [d9,f9,j8,b8,d7,K8,h5',this]
 have h5':¬ (5:Int) < q.items.length:=by omega
 by_cases h6:q.recent.length≤6
 rotate_left
 · have h6':(6:Int) < q.recent.length:=by omega
   have:S8 q=false:=by unfold S8;rw [decide_eq_false h6];simp
   simp [d9,f9,j8,b8,d7,K8,h5',h6',this]
 have h6':¬ (6:Int) < q.recent.length:=by omega
 have hfin:a0i q.items.length (a5j q.items)=true→a0i q.recent.length (a9m q.recent)=true→S8 q=true:=fun a b=>by
  unfold S8;rw [decide_eq_true h5,decide_eq_true h6,a,b];rfl
 simp [d9,f9,j8,b8,d7,K8,h5',h6']
 refine j7 (X:=Nat) (fun i=>⟨t6 [(1,.ptr 1 0),(3,.val (num i))],u1 [(1,.box [.val (.list 4 (q.items.map i7)),.val (.list 1 (q.recent.map tx))])]⟩) (fun i=>i≤q.items.length∧a0i i (a5j q.items)=true) (fun i=>q.items.length - i) 0 (Le.mk _ _ ?_ ?_) ?_ ?_
 · simp [upd,num]
 · simp
 · simp [a1a]
 · rintro i ⟨hi,hall⟩
   simp [num]
   refine f7 (fun h1=>?_) (fun h1=>?_)
   · have G5:=b08 (q:=q) h1
     have hsu:=a0w (a5j q.items) i
     rw [hall,Bool.true_and] at hsu
     obtain ⟨r,hr⟩:∃ r,q.items[i]=r:=⟨_,rfl⟩
     have hR:=c2p r
     have wi:IntKind.i64.wrap ((i:Int)+1)=((i+1:Nat):Int):=by rw [wrap_i64 (by omega) (by omega)];omega
     by_cases h0:i=0
     · subst h0
       rw [b4o h1,hr] at G5 hsu
       simp [num,h1,hr,i7,tx]
       refine A0 rfl rfl (.inl rfl) hR ?_
       cases hk:Z5 r with
       | false=>simp [G5 hk]
       | true=>
        simp [num]
        refine LoopNext.mk 1 ⟨by omega,by rw [hsu,hk]⟩ (by omega) (Le.mk _ _ ?_ ?_)
        · simp [num,upd];decide
        · simp [tx]
     · obtain ⟨j,hij⟩:∃ j,i=j+1:=⟨i - 1,by omega⟩
       have hj:j < q.items.length:=by omega
       obtain ⟨s,hs⟩:∃ s,q.items[j]=s:=⟨_,rfl⟩
       have hra:a5j q.items i=(Z5 r && (decide (s.id < r.id) && decide (s.born≤r.born))):=by
        subst hij;rw [b4p h1,hr,hs]
       rw [hra] at G5 hsu
       have wj:IntKind.i64.wrap ((i:Int) - 1)=(j:Int):=by rw [wrap_i64 (by omega) (by omega)];omega
       have hp:0 < i:=by omega
       simp [num,h1,hr,i7,tx]
       refine A0 rfl rfl (.inl rfl) hR ?_
       cases hk:Z5 r with
       | false=>simp [G5 (by rw [hk];rfl)]
       | true=>
        rw [hk,Bool.true_and] at G5 hsu
        by_cases hA:s.id < r.id
        · have hA':¬ r.id≤s.id:=by omega
          by_cases hB:s.born≤r.born
          · have hB':¬ r.born < s.born:=by omega
            simp [num,h1,hr,hs,hj,hp,wj,i7,tx,hA',hB']
            refine LoopNext.mk (i+1) ⟨by omega,by rw [hsu,decide_eq_true hA,decide_eq_true hB];rfl⟩ (by omega) (Le.mk _ _ ?_ ?_)
            · simp [num,wi]
            · simp [tx]
          · have hB':r.born < s.born:=by omega
            simp [num,h1,hr,hs,hj,hp,wj,i7,tx,hA',hB',G5 (by rw [decide_eq_false hB,Bool.and_false])]
        · have hA':r.id≤s.id:=by omega
          simp [num,h1,hr,hs,hj,hp,wj,i7,tx,hA',G5 (by rw [decide_eq_false hA,Bool.false_and])]
   · have e:i=q.items.length:=by omega
     subst e
     simp [num]
     refine j7 (X:=Nat) (fun i=>⟨t6 [(1,.ptr 1 0),(4,.val (num i))],u1 [(1,.box [.val (.list 4 (q.items.map i7)),.val (.list 1 (q.recent.map tx))])]⟩) (fun i=>i≤q.recent.length∧a0i i (a9m q.recent)=true) (fun i=>q.recent.length - i) 0 (Le.mk _ _ ?_ ?_) ?_ ?_
     · simp [upd,num]
     · simp
     · simp [a1a]
     · rintro i ⟨hi2,hall2⟩
       simp [num]
       refine f7 (fun h1=>?_) (fun h1=>?_)
       · have G5:=b09 (q:=q) h1
         have hsu:=a0w (a9m q.recent) i
         rw [hall2,Bool.true_and] at hsu
         rw [c0q h1] at G5 hsu
         obtain ⟨r,hr⟩:∃ r,q.recent[i]=r:=⟨_,rfl⟩
         rw [hr] at G5 hsu
         have hR:=U0 .i64 r.length 1 8000
         have hq:(1≤r.length∧r.length≤8000)↔((1:Int)≤r.length∧(r.length:Int)≤8000):=by omega
         rw [decide_eq_decide.2 hq] at G5 hsu
         have hH:=c2r (q.recent.take i) r (by simp;omega)
         have wi:IntKind.i64.wrap ((i:Int)+1)=((i+1:Nat):Int):=by rw [wrap_i64 (by omega) (by omega)];omega
         have hile:i≤q.recent.length:=by omega
         simp [num,h1,hr,tx,b9]
         refine A0 rfl rfl (.inl rfl) hR ?_
         cases hk:decide ((1:Int)≤r.length∧(r.length:Int)≤8000) with
         | false=>simp [G5 (by rw [hk];rfl)]
         | true=>
          rw [hk,Bool.true_and] at G5 hsu
          simp [num,h1,hr,tx,hile,← List.map_take]
          refine A0 rfl rfl (.inl rfl) hH ?_
          by_cases hm:r∈q.recent.take i
          · simp [hm,G5 (by rw [decide_eq_false (fun h=>h hm)])]
          · simp [hm]
            refine LoopNext.mk (i+1) ⟨by omega,by rw [hsu,decide_eq_true hm]⟩ (by omega) (Le.mk _ _ ?_ ?_)
            · simp [num,wi]
            · simp [tx]
       · have e:i=q.recent.length:=by omega
         subst e
         simp [hfin hall hall2]
def V9 (p:LPipe):MObj:=.box [.val (.list 6 (p.channels.map j5)),.val (tx p.policy.reportTo),.val (.list 1 (p.policy.uris.map tx)),.val (.list 2 (p.policy.rules.map l4)),.val (num p.now),.val (num p.next),.val (.list 3 (p.log.map G0)),.val (.list 7 (p.wires.map H5))]
def c2x (c:LChannel):MObj:=.box [.val (tx c.group.name),.val (num c.group.age),.val (.list 3 (c.group.targets.map f8)),.val (.list 6 (c.peers.map F9)),.val (.list 4 (c.queue.items.map i7)),.val (.list 1 (c.queue.recent.map tx))]
theorem b9t (p:LPipe) (c:LChannel) (hb:Q8 1048576 c):d8 Tryz.prog 110 [.val (L4 p),.val (j5 c)] (.ret (.val (.bool (R2 p.next p.now c))) []) []:=by
 have hO:=c_l03OK c.group hb.1
 have hpl:c.peers.length≤1048576:=hb.2.1.1
 have htl:c.group.targets.length≤1048576:=hb.1.2.1
 have hP:=c_l07OK c.peers (by omega) (fun x hx=>by have:=hb.2.1.2 x hx;unfold a1d U4 at this;omega)
 have hQ:=c_l06OK c.queue hb.2.2
 have hql:c.queue.items.length≤1048576:=hb.2.2.1.1
 refine f6 mixed ok110 rfl (fun _=>rfl) ?_
 unfold ir110
 rw [b6]
 simp [d9,f9,j8,b8,d7,L4,j5,tx,num]
 refine b7 rfl rfl (.inl rfl) hO ?_
 cases hg:a3d c.group with
 | false=>
  have hf:R2 p.next p.now c=false:=by unfold R2;rw [hg];rfl
  simp [hf]
 | true=>
 simp [num]
 refine b7 rfl rfl (.inl rfl) hP ?_
 cases hp:a0d c.peers with
 | false=>
  have hf:R2 p.next p.now c=false:=by unfold R2;rw [hg,hp];rfl
  simp [hf]
 | true=>
 by_cases hl:c.peers.length=c.group.targets.length
 rotate_left
 · have hf:R2 p.next p.now c=false:=by
    unfold R2
    rw [decide_eq_false (fun h=>hl (by have:=congrArg List.length h;simpa using this))]
    simp
   have hl':¬ ((c.peers.length:Int)=c.group.targets.length):=by omega
   simp [hf,hl,hl']
 simp [num,hl]
 refine b7 rfl rfl (.inl rfl) hQ ?_
 cases hq:S8 c.queue with
 | false=>
  have hf:R2 p.next p.now c=false:=by unfold R2;rw [hq];simp
  simp [hf]
 | true=>
 have hch:R2 p.next p.now c=(decide (c.peers.map (fun p=>p.target)=c.group.targets) && c.queue.items.all fun r=>decide (r.id < p.next) && decide (r.born≤p.now)):=by
  unfold R2;rw [hg,hp,hq];simp
 rw [hch]
 simp [num]
 refine j7 (X:=Nat) (fun i=>⟨t6 [(2,.ptr 2 0),(3,.ptr 3 0),(5,.val (num i))],u1 [(2,V9 p),(3,c2x c)]⟩) (fun i=>i≤c.peers.length∧∀ k,k < i→∀ (h:k < c.peers.length) (h':k < c.group.targets.length),(c.peers[k]).target=c.group.targets[k]) (fun i=>c.peers.length - i) 0 (Le.mk _ _ ?_ ?_) ?_ ?_
 · simp [upd,num,PV.kill]
 · simp [V9,c2x,tx,num,MObj.kill,PV.kill]
 · simp
 · rintro i ⟨hi,hall⟩
   simp [num,c2x]
   refine f7 (fun h1=>?_) (fun h1=>?_)
   · have h1':i < c.group.targets.length:=by omega
     obtain ⟨x,hx⟩:∃ x,c.peers[i]=x:=⟨_,rfl⟩
     obtain ⟨t,ht⟩:∃ t,c.group.targets[i]=t:=⟨_,rfl⟩
     have wi:IntKind.i64.wrap ((i:Int)+1)=((i+1:Nat):Int):=by rw [wrap_i64 (by omega) (by omega)];omega
     have G5:x.target≠t→(decide (c.peers.map (fun p=>p.target)=c.group.targets) && c.queue.items.all fun r=>decide (r.id < p.next) && decide (r.born≤p.now))=false:=fun hne=>by
      rw [decide_eq_false,Bool.false_and]
      intro he
      apply hne
      have:=congrArg (fun l=>l[i]?) he
      simp [List.getElem?_eq_getElem h1,List.getElem?_eq_getElem h1',hx,ht] at this
      exact this
     by_cases hu:x.target.url=t.url
     · by_cases hp2:x.target.prio=t.prio
       · by_cases hw:x.target.weight=t.weight
         · have hxt:x.target=t:=by
            cases hxx:x.target;cases t
            rw [hxx] at hu hp2 hw
            simp only at hu hp2 hw
            subst hu;subst hp2;subst hw;rfl
           simp [num,h1,h1',hx,ht,F9,f8,tx,P0,a4n,a3t,L2,hu,hp2,hw]
           refine LoopNext.mk (i+1) ⟨by omega,fun k hk h h'=>?_⟩ (by omega) (Le.mk _ _ ?_ ?_)
           · by_cases e:k=i
             · subst e;rw [hx,ht];exact hxt
             · exact hall k (by omega) h h'
           · simp [num,wi]
           · simp [c2x,V9,tx,num]
         · simp [num,h1,h1',hx,ht,F9,f8,tx,P0,a4n,a3t,L2,hu,hp2,hw,G5 (fun e=>hw (by rw [e]))]
       · simp [num,h1,h1',hx,ht,F9,f8,tx,P0,a4n,a3t,L2,hu,hp2,G5 (fun e=>hp2 (by rw [e]))]
     · simp [num,h1,h1',hx,ht,F9,f8,tx,P0,a4n,a3t,L2,hu,G5 (fun e=>hu (by rw [e]))]
   · have e:i=c.peers.length:=by omega
     subst e
     have heq:c.peers.map (fun p=>p.target)=c.group.targets:=by
      refine List.ext_getElem (by simpa using hl) fun k h h'=>?_
      simp only [List.getElem_map]
      exact hall k (by simpa using h) (by simpa using h) h'
     rw [decide_eq_true heq,Bool.true_and]
     simp [num]
     refine j7 (X:=Nat) (fun i=>⟨t6 [(2,.ptr 2 0),(3,.ptr 3 0),(6,.val (num i))],u1 [(2,V9 p),(3,c2x c)]⟩) (fun i=>i≤c.queue.items.length∧((c.queue.items.take i).all fun r=>decide (r.id < p.next) && decide (r.born≤p.now))=true) (fun i=>c.queue.items.length - i) 0 (Le.mk _ _ ?_ ?_) ?_ ?_
     · simp [upd,num,PV.kill]
     · simp [V9,c2x,tx,num,MObj.kill,PV.kill]
     · simp
     · rintro i ⟨hi2,hall2⟩
       simp [num,c2x]
       refine f7 (fun h2=>?_) (fun h2=>?_)
       · have hst:((c.queue.items.take (i+1)).all fun r=>decide (r.id < p.next) && decide (r.born≤p.now))=_:=R9 _ _ _ h2
         rw [hall2,Bool.true_and] at hst
         obtain ⟨r,hr⟩:∃ r,c.queue.items[i]=r:=⟨_,rfl⟩
         rw [hr] at hst
         have wi:IntKind.i64.wrap ((i:Int)+1)=((i+1:Nat):Int):=by rw [wrap_i64 (by omega) (by omega)];omega
         have G5:(decide (r.id < p.next) && decide (r.born≤p.now))=false→(c.queue.items.all fun r=>decide (r.id < p.next) && decide (r.born≤p.now))=false:=fun h=>by
          rw [List.all_eq_false]
          exact ⟨r,by rw [← hr];exact List.getElem_mem h2,by rw [h];simp⟩
         by_cases hA:r.id < p.next
         · have hA':¬ p.next≤r.id:=by omega
           by_cases hB:r.born≤p.now
           · have hB':¬ p.now < r.born:=by omega
             simp [num,h2,hr,i7,tx,V9,PV.kill,MObj.kill,hA',hB']
             refine LoopNext.mk (i+1) ⟨by omega,by rw [hst,decide_eq_true hA,decide_eq_true hB];rfl⟩ (by omega) (Le.mk _ _ ?_ ?_)
             · simp [num,wi,PV.kill]
             · simp [c2x,V9,MObj.kill,PV.kill,tx,num]
           · have hB':p.now < r.born:=by omega
             simp [num,h2,hr,i7,tx,V9,PV.kill,MObj.kill,hA',hB',G5 (by rw [decide_eq_false hB,Bool.and_false])]
         · have hA':p.next≤r.id:=by omega
           simp [num,h2,hr,i7,tx,V9,PV.kill,MObj.kill,hA',G5 (by rw [decide_eq_false hA,Bool.false_and])]
       · have e:i=c.queue.items.length:=by omega
         subst e
         rw [List.take_length] at hall2
         simp [hall2]
end Go.Proofs
end
section
namespace Go.Proofs
open Go.PW Go.KP
attribute [local simp] RV.cells RV.one PV.cells PV.solid PV.one G1 i6 L8 K7 RV.ofCells elems PV.killL
variable [GF]
def b6o (w:LWire):MObj:=.box [.val (num w.at_),.val (num w.status),.val (tx w.group),.val (tx w.url),.val (.list 1 (w.ids.map num)),.val (tx w.body),.val (.bool w.lost)]
theorem b86 (p:LPipe) (w:LWire) (b1 b2 b3 b5:Bool) (hn:1≤p.next∧p.next≤1000000) (hil:w.ids.length≤1048576) (h1:d8 Tryz.prog 108 [.val (.int .i64 w.at_),.val (.int .i64 0),.val (.int .i64 p.now)] (.ret (.val (.bool b1)) []) [])
 (h2:d8 Tryz.prog 108 [.val (.int .i64 w.status),.val (.int .i64 100),.val (.int .i64 599)] (.ret (.val (.bool b2)) []) []) (h3:d8 Tryz.prog 173 [.val (tx w.group)] (.ret (.val (.bool b3)) []) [])
 (h5:d8 Tryz.prog 108 [.val (.int .i64 w.ids.length),.val (.int .i64 1),.val (.int .i64 3)] (.ret (.val (.bool b5)) []) []) :
 d8 Tryz.prog 111 [.val (L4 p),.val (H5 w)] (.ret (.val (.bool (b1 && b2 && b3 && decide (w.url.length≤100) && b5 && decide (w.body.length≤65536) && a0i w.ids.length (a78 p.next w.ids)))) []) []:=by
 refine f6 mixed ok111 rfl (fun _=>rfl) ?_
 unfold ir111
 rw [b6]
 simp [d9,f9,j8,b8,d7,L4,H5,tx,num]
 refine b7 rfl rfl (.inl rfl) h1 ?_
 cases b1 with
 | false=>simp
 | true=>
 simp [num]
 refine b7 rfl rfl (.inl rfl) h2 ?_
 cases b2 with
 | false=>simp
 | true=>
 simp [num]
 refine b7 rfl rfl (.inl rfl) h3 ?_
 cases b3 with
 | false=>simp
 | true=>
 by_cases hu:w.url.length≤100
 rotate_left
 · have hu':(100:Int) < w.url.length:=by omega
   simp [num,b9,hu',hu]
 have hu':¬ (100:Int) < w.url.length:=by omega
 simp [num,b9,hu',hu]
 refine b7 rfl rfl (.inl rfl) h5 ?_
 cases b5 with
 | false=>simp
 | true=>
 by_cases hy:w.body.length≤65536
 rotate_left
 · have hy':(65536:Int) < w.body.length:=by omega
   simp [num,b9,hy',hy]
 have hy':¬ (65536:Int) < w.body.length:=by omega
 simp [num,b9,hy',hy]
 have wn:IntKind.i64.wrap (p.next - 1)=p.next - 1:=wrap_i64 (by omega) (by omega)
 refine j7 (X:=Nat) (fun i=>⟨t6 [(2,.ptr 2 0),(3,.ptr 3 0),(5,.val (num i))],u1 [(2,V9 p),(3,b6o w)]⟩) (fun i=>i≤w.ids.length∧a0i i (a78 p.next w.ids)=true) (fun i=>w.ids.length - i) 0 (Le.mk _ _ ?_ ?_) ?_ ?_
 · simp [upd,num,PV.kill]
 · simp [V9,b6o,tx,num,MObj.kill,PV.kill]
 · simp [a1a]
 · rintro i ⟨hi,hall⟩
   simp [num,b6o]
   refine f7 (fun hlt=>?_) (fun hlt=>?_)
   · have G5:a78 p.next w.ids i=false→a0i w.ids.length (a78 p.next w.ids)=false:=a4j hlt
     have hsu:=a0w (a78 p.next w.ids) i
     rw [hall,Bool.true_and] at hsu
     obtain ⟨r,hr⟩:∃ r,w.ids[i]=r:=⟨_,rfl⟩
     have hR:=U0 .i64 r 1 (p.next - 1)
     have wi:IntKind.i64.wrap ((i:Int)+1)=((i+1:Nat):Int):=by rw [wrap_i64 (by omega) (by omega)];omega
     by_cases h0:i=0
     · subst h0
       rw [b7w hlt,hr] at G5 hsu
       simp [num,hlt,hr,tx,V9,wn]
       refine A0 rfl rfl (.inl rfl) hR ?_
       cases hk:decide (1≤r∧r≤p.next - 1) with
       | false=>simp [G5 hk]
       | true=>
        simp [num]
        refine LoopNext.mk 1 ⟨by omega,by rw [hsu,hk]⟩ (by omega) (Le.mk _ _ ?_ ?_)
        · simp [num,upd];decide
        · simp [tx,V9,b6o,num]
     · obtain ⟨j,hij⟩:∃ j,i=j+1:=⟨i - 1,by omega⟩
       have hj:j < w.ids.length:=by omega
       obtain ⟨s,hs⟩:∃ s,w.ids[j]=s:=⟨_,rfl⟩
       have hra:a78 p.next w.ids i=(decide (1≤r∧r≤p.next - 1) && decide (s < r)):=by
        subst hij;rw [b7x hlt,hr,hs]
       rw [hra] at G5 hsu
       have wj:IntKind.i64.wrap ((i:Int) - 1)=(j:Int):=by rw [wrap_i64 (by omega) (by omega)];omega
       have hp:0 < i:=by omega
       simp [num,hlt,hr,tx,V9,wn]
       refine A0 rfl rfl (.inl rfl) hR ?_
       cases hk:decide (1≤r∧r≤p.next - 1) with
       | false=>simp [G5 (by rw [hk];rfl)]
       | true=>
        rw [hk,Bool.true_and] at G5 hsu
        by_cases hA:s < r
        · have hA':¬ r≤s:=by omega
          simp [num,hlt,hr,hs,hj,hp,wj,tx,hA']
          refine LoopNext.mk (i+1) ⟨by omega,by rw [hsu,decide_eq_true hA]⟩ (by omega) (Le.mk _ _ ?_ ?_)
          · simp [num,wi]
          · simp [tx,V9,b6o,num]
        · have hA':r≤s:=by omega
          simp [num,hlt,hr,hs,hj,hp,wj,tx,hA',G5 (decide_eq_false hA)]
   · have e:i=w.ids.length:=by omega
     subst e
     simp [hall,hu,hy]
theorem c81 (p:LPipe) (w:LWire) (hn:1≤p.next∧p.next≤1000000) (hb:Z4 1048576 w):d8 Tryz.prog 111 [.val (L4 p),.val (H5 w)] (.ret (.val (.bool (X3 p.next p.now w))) []) []:=by
 have hgl:w.group.length≤1048576:=hb.1
 have hil:w.ids.length≤1048576:=hb.2.2.1
 have q:(1≤w.ids.length∧w.ids.length≤3)↔((1:Int)≤w.ids.length∧(w.ids.length:Int)≤3):=by omega
 unfold X3
 rw [decide_eq_decide.2 q]
 exact b86 p w _ _ _ _ hn hil (U0 .i64 w.at_ 0 p.now) (U0 .i64 w.status 100 599) (b2k w.group (by omega)) (U0 .i64 w.ids.length 1 3)
theorem c2k (p:LPipe) (i:Nat) (h:i < p.channels.length):(a07 p.channels fun c=>decide (c.group.name=(p.channels[i]).group.name))=(i:Int)↔(p.channels[i]).group.name∉(p.channels.map fun c=>c.group.name).take i:=b18 (fun c:LChannel=>c.group.name) p.channels i h
theorem c_l08OK (p:LPipe) (hb:a1c 1048576 p):d8 Tryz.prog 59 [.val (L4 p)] (.ret (.val (.bool (O7 p))) []) []:=by
 have hcl:p.channels.length≤1048576:=hb.1.1
 have hP:=c_l04OK p.policy hb.2.1
 have hN:=U0 .i64 p.now 0 1000000
 have hX:=U0 .i64 p.next 1 1000000
 refine f6 mixed ok59 rfl (fun _=>rfl) ?_
 unfold ir59
 rw [b6]
 by_cases h5:p.channels.length≤5
 rotate_left
 · have h5':(5:Int) < p.channels.length:=by omega
   have hf:O7 p=false:=by unfold O7;rw [decide_eq_false h5];rfl
   simp [d9,f9,j8,b8,d7,L4,tx,num,h5',hf]
 have h5':¬ (5:Int) < p.channels.length:=by omega
 simp [d9,f9,j8,b8,d7,L4,tx,num,h5']
 refine b7 rfl rfl (.inl rfl) hP ?_
 cases hpol:Y0 p.policy with
 | false=>
  have hf:O7 p=false:=by unfold O7;rw [hpol];simp
  simp [hf]
 | true=>
 simp [num]
 refine b7 rfl rfl (.inl rfl) hN ?_
 cases hnow:decide (0≤p.now∧p.now≤1000000) with
 | false=>
  have hf:O7 p=false:=by unfold O7;rw [hnow];simp
  simp [hf]
 | true=>
 simp [num]
 refine b7 rfl rfl (.inl rfl) hX ?_
 cases hnext:decide (1≤p.next∧p.next≤1000000) with
 | false=>
  have hf:O7 p=false:=by unfold O7;rw [hnext];simp
  simp [hf]
 | true=>
 by_cases hll:p.log.length≤4096
 rotate_left
 · have hll':(4096:Int) < p.log.length:=by omega
   have hf:O7 p=false:=by unfold O7;rw [decide_eq_false hll];simp
   simp [num,hll',hf]
 have hll':¬ (4096:Int) < p.log.length:=by omega
 by_cases hwl:p.wires.length≤4096
 rotate_left
 · have hwl':(4096:Int) < p.wires.length:=by omega
   have hf:O7 p=false:=by unfold O7;rw [decide_eq_false hwl];simp
   simp [num,hll',hwl',hf]
 have hwl':¬ (4096:Int) < p.wires.length:=by omega
 have hpk:O7 p=(a0i p.channels.length (a3j p) && a0i p.log.length (a4g p.next p.now p.log) && p.wires.all (X3 p.next p.now)):=by
  unfold O7;rw [decide_eq_true h5,hpol,hnow,hnext,decide_eq_true hll,decide_eq_true hwl];simp
 have hn2:1≤p.next∧p.next≤1000000:=of_decide_eq_true hnext
 have wn:IntKind.i64.wrap (p.next - 1)=p.next - 1:=wrap_i64 (by omega) (by omega)
 rw [hpk]
 simp [num,hll',hwl']
 refine j7 (X:=Nat) (fun i=>⟨t6 [(1,.ptr 1 0),(3,.val (num i))],u1 [(1,V9 p)]⟩) (fun i=>i≤p.channels.length∧a0i i (a3j p)=true) (fun i=>p.channels.length - i) 0 (Le.mk _ _ ?_ ?_) ?_ ?_
 · simp [upd,num,PV.kill]
 · simp [V9,tx,num,MObj.kill,PV.kill]
 · simp [a1a]
 · rintro i ⟨hi,hall⟩
   simp [num,V9]
   refine f7 (fun hlt=>?_) (fun hlt=>?_)
   · have G5:a3j p i=false→(a0i p.channels.length (a3j p) && a0i p.log.length (a4g p.next p.now p.log) && p.wires.all (X3 p.next p.now))=false:=fun h=>by rw [a4j hlt h];rfl
     have hsu:=a0w (a3j p) i
     rw [hall,Bool.true_and] at hsu
     rw [b2i hlt] at G5 hsu
     have hnm:=c2k p i hlt
     obtain ⟨c,hc⟩:∃ c,p.channels[i]=c:=⟨_,rfl⟩
     have hbc:Q8 1048576 c:=by rw [← hc];exact hb.1.2 _ (List.getElem_mem hlt)
     rw [hc] at G5 hsu hnm
     have hA:=c_l08At p.channels c.group.name (by omega)
     have hC:=b9t p c hbc
     have wi:IntKind.i64.wrap ((i:Int)+1)=((i+1:Nat):Int):=by rw [wrap_i64 (by omega) (by omega)];omega
     simp [num,hlt,hc,j5,tx]
     refine A0 rfl rfl (.inl rfl) hA ?_
     by_cases hu:c.group.name∈(p.channels.map fun c=>c.group.name).take i
     · have hne:¬ (a07 p.channels fun x=>decide (x.group.name=c.group.name))=(i:Int):=fun h=>hnm.1 h hu
       simp [num,hne,G5 (by rw [decide_eq_false (fun h=>h hu),Bool.false_and])]
     · have heq:=hnm.2 hu
       rw [decide_eq_true hu,Bool.true_and] at G5 hsu
       simp [num,heq,hlt,hc,j5,tx]
       refine A0 rfl rfl (.inl rfl) hC ?_
       cases hk:R2 p.next p.now c with
       | false=>simp [G5 hk]
       | true=>
        simp
        refine LoopNext.mk (i+1) ⟨by omega,by rw [hsu,hk]⟩ (by omega) (Le.mk _ _ ?_ ?_)
        · simp [num,wi]
        · simp [tx,V9,num]
   · have e:i=p.channels.length:=by omega
     subst e
     rw [hall,Bool.true_and]
     simp [num]
     refine j7 (X:=Nat) (fun i=>⟨t6 [(1,.ptr 1 0),(4,.val (num i))],u1 [(1,V9 p)]⟩) (fun i=>i≤p.log.length∧a0i i (a4g p.next p.now p.log)=true) (fun i=>p.log.length - i) 0 (Le.mk _ _ ?_ ?_) ?_ ?_
     · simp [upd,num,PV.kill]
     · simp [V9,tx,num,MObj.kill,PV.kill]
     · simp [a1a]
     · rintro i ⟨hi2,hall2⟩
       simp [num,V9]
       refine f7 (fun hlt=>?_) (fun hlt=>?_)
       · have G5:a4g p.next p.now p.log i=false→(a0i p.log.length (a4g p.next p.now p.log) && p.wires.all (X3 p.next p.now))=false:=fun h=>by rw [a4j hlt h];rfl
         have hsu:=a0w (a4g p.next p.now p.log) i
         have hlo:=b1k (by omega) hall2
         rw [hall2,Bool.true_and] at hsu
         rw [b5y hlt] at G5 hsu
         obtain ⟨x,hx⟩:∃ x,p.log[i]=x:=⟨_,rfl⟩
         rw [hx] at G5 hsu
         have hK:=U0 .i64 x.kind 1 7
         have hI:=U0 .i64 x.id 1 (p.next - 1)
         have hT:=U0 .i64 x.at_ 0 p.now
         have wi:IntKind.i64.wrap ((i:Int)+1)=((i+1:Nat):Int):=by rw [wrap_i64 (by omega) (by omega)];omega
         simp [num,hlt,hx,G0,tx,PV.kill,MObj.kill]
         refine A0 rfl rfl (.inl rfl) hK ?_
         cases hk:decide (1≤x.kind∧x.kind≤7) with
         | false=>simp [G5 (by rw [hk];rfl)]
         | true=>
         rw [hk,Bool.true_and] at G5 hsu
         simp [num,wn,PV.kill]
         refine A0 rfl rfl (.inl rfl) hI ?_
         cases hid:decide (1≤x.id∧x.id≤p.next - 1) with
         | false=>simp [G5 (by rw [hid];rfl)]
         | true=>
         rw [hid,Bool.true_and] at G5 hsu
         simp [num,wn,PV.kill]
         refine A0 rfl rfl (.inl rfl) hT ?_
         cases hat:decide (0≤x.at_∧x.at_≤p.now) with
         | false=>simp [G5 (decide_eq_false (fun h=>(of_decide_eq_false hat) ⟨by omega,h.2⟩))]
         | true=>
         have hat2:=of_decide_eq_true hat
         by_cases h0:i=0
         · subst h0
           have hl0:a9v p.log 0=0:=rfl
           rw [hl0] at hsu
           simp [num]
           refine LoopNext.mk 1 ⟨by omega,by rw [hsu,hat]⟩ (by omega) (Le.mk _ _ ?_ ?_)
           · simp [num,upd,PV.kill];decide
           · simp [tx,V9,num,PV.kill,MObj.kill]
         · obtain ⟨j,hij⟩:∃ j,i=j+1:=⟨i - 1,by omega⟩
           have hj:j < p.log.length:=by omega
           obtain ⟨y,hy⟩:∃ y,p.log[j]=y:=⟨_,rfl⟩
           have hly:a9v p.log i=y.at_:=by subst hij;rw [b0h hj,hy]
           rw [hly] at G5 hsu
           have wj:IntKind.i64.wrap ((i:Int) - 1)=(j:Int):=by rw [wrap_i64 (by omega) (by omega)];omega
           have hp:0 < i:=by omega
           by_cases hA:x.at_ < y.at_
           · simp [num,hlt,hx,hy,hj,hp,wj,G0,tx,PV.kill,MObj.kill,hA,G5 (decide_eq_false (fun h=>by omega))]
           · simp [num,hlt,hx,hy,hj,hp,wj,G0,tx,PV.kill,MObj.kill,hA]
             refine LoopNext.mk (i+1) ⟨by omega,by rw [hsu];exact decide_eq_true ⟨by omega,hat2.2⟩⟩ (by omega) (Le.mk _ _ ?_ ?_)
             · simp [num,wi,PV.kill]
             · simp [tx,V9,num,PV.kill,MObj.kill]
       · have e:i=p.log.length:=by omega
         subst e
         rw [hall2,Bool.true_and]
         simp [num]
         refine j7 (X:=Nat) (fun i=>⟨t6 [(1,.ptr 1 0),(6,.val (num i))],u1 [(1,V9 p)]⟩) (fun i=>i≤p.wires.length∧(p.wires.take i).all (X3 p.next p.now)=true) (fun i=>p.wires.length - i) 0 (Le.mk _ _ ?_ ?_) ?_ ?_
         · simp [upd,num,PV.kill]
         · simp [V9,tx,num,MObj.kill,PV.kill]
         · simp
         · rintro i ⟨hi3,hall3⟩
           simp [num,V9]
           refine f7 (fun hlt3=>?_) (fun hlt3=>?_)
           · have hst:=R9 p.wires (X3 p.next p.now) i hlt3
             rw [hall3,Bool.true_and] at hst
             obtain ⟨x,hx⟩:∃ x,p.wires[i]=x:=⟨_,rfl⟩
             have hbw:Z4 1048576 x:=by rw [← hx];exact hb.2.2.2.2 _ (List.getElem_mem hlt3)
             rw [hx] at hst
             have hW:=c81 p x hn2 hbw
             have wi:IntKind.i64.wrap ((i:Int)+1)=((i+1:Nat):Int):=by rw [wrap_i64 (by omega) (by omega)];omega
             have G5:X3 p.next p.now x=false→p.wires.all (X3 p.next p.now)=false:=fun h=>List.all_eq_false.2 ⟨x,by rw [← hx];exact List.getElem_mem hlt3,by simp [h]⟩
             simp [num,hlt3,hx,H5,tx]
             refine A0 rfl rfl (.inl rfl) hW ?_
             cases hk:X3 p.next p.now x with
             | false=>simp [G5 hk]
             | true=>
              simp
              refine LoopNext.mk (i+1) ⟨by omega,by rw [hst,hk]⟩ (by omega) (Le.mk _ _ ?_ ?_)
              · simp [num,wi]
              · simp [tx,V9,num]
           · have e:i=p.wires.length:=by omega
             subst e
             rw [List.take_length] at hall3
             simp [hall3]
end Go.Proofs
end
