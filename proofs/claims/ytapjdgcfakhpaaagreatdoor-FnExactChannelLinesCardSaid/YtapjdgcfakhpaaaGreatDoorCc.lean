/- Cc: merged out of KSl, KSp, KSt, KSu, KSx. -/
import Derived.Test.YtapjdgcfakhpaaaGreatDoorCa
import Derived.Test.YtapjdgcfakhpaaaGreatDoorAc
import Derived.Test.YtapjdgcfakhpaaaGreatDoorBa
import Derived.Test.YtapjdgcfakhpaaaGreatDoorCb
set_option linter.unusedSectionVars false
set_option linter.unusedSimpArgs false
set_option linter.unusedVariables false
set_option maxRecDepth 100000
section
namespace Go.Proofs
open Go.PW Go.KP
attribute [local simp] RV.cells RV.one PV.cells PV.solid PV.one G6 i7 M3 L4 RV.ofCells elems PV.killL
variable [GF]
theorem a8l (l:List Tx) (left:Int) (h0:0≤left) (h1:left≤1048576) (hx:bdS 9223372036854775807 (fun t=>t.length≤9223372036854775807) l):d8 Tryz.prog 66 [.val (.list 1 (l.map tx)),.val (num left)] (.ret (.val (num (cut left (zS List.length l)))) []) []:=by
 refine f8 mixed ok66 rfl (fun _=>rfl) ?_
 unfold ir66
 rw [b6]
 have hl:l.length≤9223372036854775807:=hx.1
 have hw:IntKind.i64.wrap (left - (l.length:Int))=left - l.length:=wrap_i64 (by omega) (by omega)
 have hzs:zS List.length l=l.length+G8 List.length l:=rfl
 by_cases h:left - (l.length:Int) < 0
 · rw [l8 (by omega)]
   simp [d9,i6,j9,b9,d7,num,hw,h]
 · simp [d9,i6,j9,b9,d7,num,hw,h]
   refine j8 (X:=Nat) (fun i=>⟨u0 [(0,.val (.list 1 (l.map tx))),(1,.val (num (left - l.length - (G8 List.length (l.take i):Nat)))),(5,.val (num i))],u5 []⟩) (fun i=>i≤l.length∧0≤left - l.length - (G8 List.length (l.take i):Nat)) (fun i=>l.length - i) 0 (Le.mk _ _ ?_ ?_) ?_ ?_
   · simp [upd,num,G8,PV.kill]
   · simp
   · simp [G8];omega
   · rintro i ⟨hi,hg⟩
     simp [num]
     refine f7 (fun h2=>?_) (fun h2=>?_)
     · have e1:(l.map tx)[i]?.getD .nilptr=tx l[i]:=by simp [List.getElem?_eq_getElem h2]
       have hsn:G8 List.length (l.take (i+1))=G8 List.length (l.take i)+List.length l[i]:=a1k _ h2
       have hle:=a4d (f:=List.length) l (i+1)
       have hxi:l[i].length≤9223372036854775807:=hx.2 _ (List.getElem_mem h2)
       have hw2:IntKind.i64.wrap (left - (l.length:Int) - (G8 List.length (l.take i):Int) - (l[i].length:Int))=left - (l.length:Int) - (G8 List.length (l.take i):Int) - (l[i].length:Int):=wrap_i64 (by omega) (by omega)
       by_cases h3:left - (l.length:Int) - (G8 List.length (l.take i):Int) - (l[i].length:Int) < 0
       · rw [l8 (by omega)]
         simp [num,h2,e1,tx,b8,hw2,h3]
       · simp [num,h2,e1,tx,b8,hw2,h3]
         refine LoopNext.mk (i+1) ⟨by omega,by omega⟩ (by omega) (Le.mk _ _ ?_ ?_)
         · simp [num]
           exact ⟨by omega,wrap_i64 (by omega) (by omega)⟩
         · simp
     · have e1:i=l.length:=by omega
       subst e1
       rw [List.take_length] at *
       rw [L6 (by omega)]
       simp [num]
       omega
theorem a50 (l:List Tx) (hx:bdS 1048576 (fun t=>t.length≤1048576) l):d8 Tryz.prog 31 [.val (.list 1 (l.map tx)),.val (.list 1 (l.map tx))] (.ret (.val (.bool true)) []) []:=by
 refine f8 mixed ok31 rfl (fun _=>rfl) ?_
 unfold ir31
 rw [b6]
 have hl:l.length≤1048576:=hx.1
 simp [d9,i6,j9,b9,d7,num]
 refine j8 (X:=Nat) (fun i=>⟨u0 [(0,.val (.list 1 (l.map tx))),(1,.val (.list 1 (l.map tx))),(5,.val (num i))],u5 []⟩) (fun i=>i≤l.length) (fun i=>l.length - i) 0 (Le.mk _ _ ?_ ?_) ?_ ?_
 · simp [upd,num,PV.kill]
 · simp
 · simp
 · intro i hi
   simp [num]
   refine f7 (fun h1=>?_) (fun h1=>?_)
   · have e1:(l.map tx)[i]?.getD .nilptr=tx l[i]:=by simp [List.getElem?_eq_getElem h1]
     simp [num,h1,e1,tx]
     refine LoopNext.mk (i+1) (by omega) (by omega) (Le.mk _ _ ?_ ?_)
     · simp [num];exact wrap_i64 (by omega) (by omega)
     · simp
   · simp
theorem d08 (x:LRule) (left:Int) (h0:0≤left) (h1:left≤1048576) (hx:Y2 9223372036854775807 x):d8 Tryz.prog 123 [.val (l7 x),.val (num left)] (.ret (.val (num (cut left (a0g x)))) []) []:=by
 refine f8 mixed ok123 rfl (fun _=>rfl) ?_
 unfold ir123
 rw [b6]
 unfold Y2 at hx
 obtain ⟨b0,b1⟩:=hx
 unfold a0g
 have w0:IntKind.i64.wrap (left - ((x.name.length:Nat):Int))=left - ((x.name.length:Nat):Int):=wrap_i64 (by omega) (by omega)
 by_cases k0:left - ((x.name.length:Nat):Int) < 0
 · rw [l8 (by omega)]
   simp [d9,i6,j9,b9,d7,l7,tx,num,b8,i7,w0,k0]
 · simp [d9,i6,j9,b9,d7,l7,tx,num,b8,i7,w0,k0]
   refine b7 rfl rfl (.inl rfl) (a8l x.words (left - (x.name.length:Nat)) (by omega) (by omega) b1) ?_
   by_cases k1:(left - (x.name.length:Nat)) - ((zS List.length x.words:Nat):Int) < 0
   · first | rw [l8 (by omega),l8 (by omega)] | rw [l8 (by omega)]
     simp [l7,tx,num,b8,i7]
   · first | rw [L6 (by omega),L6 (by omega)] | rw [L6 (by omega)]
     simp [l7,tx,num,b8,i7,k0,k1]
     try omega
theorem d1d (x:LRule) (hx:Y2 1048576 x):d8 Tryz.prog 136 [.val (l7 x),.val (l7 x)] (.ret (.val (.bool true)) []) []:=by
 refine f8 mixed ok136 rfl (fun _=>rfl) ?_
 unfold ir136
 rw [b6]
 unfold Y2 at hx
 obtain ⟨b0,b1⟩:=hx
 simp [d9,i6,j9,b9,d7,l7,tx,num,i7]
 refine b7 rfl rfl (.inl rfl) (a50 x.words b1) ?_
 simp [l7,tx,num,i7]
theorem c8h (l:List LRule) (left:Int) (h0:0≤left) (h1:left≤1048576) (hx:bdS 9223372036854775807 (Y2 9223372036854775807) l):d8 Tryz.prog 67 [.val (.list 2 (l.map l7)),.val (num left)] (.ret (.val (num (cut left (zS a0g l)))) []) []:=by
 refine f8 mixed ok67 rfl (fun _=>rfl) ?_
 unfold ir67
 rw [b6]
 have hl:l.length≤9223372036854775807:=hx.1
 have hw:IntKind.i64.wrap (left - (l.length:Int))=left - l.length:=wrap_i64 (by omega) (by omega)
 have hzs:zS a0g l=l.length+G8 a0g l:=rfl
 by_cases h:left - (l.length:Int) < 0
 · rw [l8 (by omega)]
   simp [d9,i6,j9,b9,d7,num,hw,h]
 · simp [d9,i6,j9,b9,d7,num,hw,h]
   refine j8 (X:=Nat) (fun i=>⟨u0 [(0,.val (.list 2 (l.map l7))),(1,.val (num (left - l.length - (G8 a0g (l.take i):Nat)))),(5,.val (num i))],u5 []⟩) (fun i=>i≤l.length∧0≤left - l.length - (G8 a0g (l.take i):Nat)) (fun i=>l.length - i) 0 (Le.mk _ _ ?_ ?_) ?_ ?_
   · simp [upd,num,G8,PV.kill]
   · simp
   · simp [G8];omega
   · rintro i ⟨hi,hg⟩
     simp [num]
     refine f7 (fun h2=>?_) (fun h2=>?_)
     · have e1:(l.map l7)[i]?.getD .nilptr=l7 l[i]:=by simp [List.getElem?_eq_getElem h2]
       have hsn:G8 a0g (l.take (i+1))=G8 a0g (l.take i)+a0g l[i]:=a1k _ h2
       have hle:=a4d (f:=a0g) l (i+1)
       simp [num,h2,e1,l7,tx]
       refine b7 rfl rfl (.inl rfl) (d08 l[i] (left - l.length - (G8 a0g (l.take i):Nat)) (by omega) (by omega) (hx.2 _ (List.getElem_mem h2))) ?_
       by_cases h3:left - (l.length:Int) - (G8 a0g (l.take i):Int) - (a0g l[i]:Int) < 0
       · have c1:cut (left - l.length - (G8 a0g (l.take i):Nat)) (a0g l[i])=-1:=l8 (by omega)
         have c2:cut left (zS a0g l)=-1:=l8 (by omega)
         rw [c1,c2]
         simp [num]
       · have c1:cut (left - l.length - (G8 a0g (l.take i):Nat)) (a0g l[i])=left - l.length - (G8 a0g (l.take i):Nat) - (a0g l[i]:Nat):=L6 (by omega)
         rw [c1]
         simp [num,h3]
         refine LoopNext.mk (i+1) ⟨by omega,by omega⟩ (by omega) (Le.mk _ _ ?_ ?_)
         · simp [num]
           exact ⟨by omega,wrap_i64 (by omega) (by omega)⟩
         · simp
     · have e1:i=l.length:=by omega
       subst e1
       rw [List.take_length] at *
       rw [L6 (by omega)]
       simp [num]
       omega
theorem c8m (l:List LRule) (hx:bdS 1048576 (Y2 1048576) l):d8 Tryz.prog 77 [.val (.list 2 (l.map l7)),.val (.list 2 (l.map l7))] (.ret (.val (.bool true)) []) []:=by
 refine f8 mixed ok77 rfl (fun _=>rfl) ?_
 unfold ir77
 rw [b6]
 have hl:l.length≤1048576:=hx.1
 simp [d9,i6,j9,b9,d7,num]
 refine j8 (X:=Nat) (fun i=>⟨u0 [(0,.val (.list 2 (l.map l7))),(1,.val (.list 2 (l.map l7))),(5,.val (num i))],u5 []⟩) (fun i=>i≤l.length) (fun i=>l.length - i) 0 (Le.mk _ _ ?_ ?_) ?_ ?_
 · simp [upd,num,PV.kill]
 · simp
 · simp
 · intro i hi
   simp [num]
   refine f7 (fun h1=>?_) (fun h1=>?_)
   · have e1:(l.map l7)[i]?.getD .nilptr=l7 l[i]:=by simp [List.getElem?_eq_getElem h1]
     simp [num,h1,e1,l7,tx]
     refine b7 rfl rfl (.inl rfl) (d1d l[i] (hx.2 _ (List.getElem_mem h1))) ?_
     simp
     refine LoopNext.mk (i+1) (by omega) (by omega) (Le.mk _ _ ?_ ?_)
     · simp [num];exact wrap_i64 (by omega) (by omega)
     · simp
   · simp
theorem c45 (x:LPolicy) (left:Int) (h0:0≤left) (h1:left≤1048576) (hx:a0p 9223372036854775807 x):d8 Tryz.prog 20 [.val (x5 x),.val (num left)] (.ret (.val (num (cut left (a17 x)))) []) []:=by
 refine f8 mixed ok20 rfl (fun _=>rfl) ?_
 unfold ir20
 rw [b6]
 unfold a0p at hx
 obtain ⟨b0,b1,b2⟩:=hx
 unfold a17
 have w0:IntKind.i64.wrap (left - ((x.reportTo.length:Nat):Int))=left - ((x.reportTo.length:Nat):Int):=wrap_i64 (by omega) (by omega)
 by_cases k0:left - ((x.reportTo.length:Nat):Int) < 0
 · rw [l8 (by omega)]
   simp [d9,i6,j9,b9,d7,x5,tx,num,b8,i7,w0,k0]
 · simp [d9,i6,j9,b9,d7,x5,tx,num,b8,i7,w0,k0]
   refine b7 rfl rfl (.inl rfl) (a8l x.uris (left - (x.reportTo.length:Nat)) (by omega) (by omega) b1) ?_
   by_cases k1:(left - (x.reportTo.length:Nat)) - ((zS List.length x.uris:Nat):Int) < 0
   · first | rw [l8 (by omega),l8 (by omega)] | rw [l8 (by omega)]
     simp [x5,tx,num,b8,i7]
   · rw [L6 (show ¬ (left - (x.reportTo.length:Nat)) - ((zS List.length x.uris:Nat):Int) < 0 by omega)]
     simp [x5,tx,num,b8,i7,k0,k1]
     refine b7 rfl rfl (.inl rfl) (c8h x.rules (left - (x.reportTo.length:Nat) - (zS List.length x.uris:Nat)) (by omega) (by omega) b2) ?_
     by_cases k2:(left - (x.reportTo.length:Nat) - (zS List.length x.uris:Nat)) - ((zS a0g x.rules:Nat):Int) < 0
     · first | rw [l8 (by omega),l8 (by omega)] | rw [l8 (by omega)]
       simp [x5,tx,num,b8,i7]
     · first | rw [L6 (by omega),L6 (by omega)] | rw [L6 (by omega)]
       simp [x5,tx,num,b8,i7,k0,k1,k2]
       try omega
theorem c49 (x:LPolicy) (hx:a0p 1048576 x):d8 Tryz.prog 25 [.val (x5 x),.val (x5 x)] (.ret (.val (.bool true)) []) []:=by
 refine f8 mixed ok25 rfl (fun _=>rfl) ?_
 unfold ir25
 rw [b6]
 unfold a0p at hx
 obtain ⟨b0,b1,b2⟩:=hx
 simp [d9,i6,j9,b9,d7,x5,tx,num,i7]
 refine b7 rfl rfl (.inl rfl) (a50 x.uris b1) ?_
 simp [x5,tx,num,i7]
 refine b7 rfl rfl (.inl rfl) (c8m x.rules b2) ?_
 simp [x5,tx,num,i7]
end Go.Proofs
end
section
namespace Go.Proofs
open Go.PW Go.KP
attribute [local simp] RV.cells RV.one PV.cells PV.solid PV.one G6 i7 M3 L4 RV.ofCells elems PV.killL
variable [GF]
theorem b56 (x:LTarget) (left:Int) (h0:0≤left) (h1:left≤1048576) (hx:U9 9223372036854775807 x):d8 Tryz.prog 293 [.val (f9 x),.val (num left)] (.ret (.val (num (cut left (S6 x)))) []) []:=by
 refine f8 mixed ok293 rfl (fun _=>rfl) ?_
 unfold ir293
 rw [b6]
 unfold U9 at hx
 have b0:=hx
 unfold S6
 have w0:IntKind.i64.wrap (left - ((x.url.length:Nat):Int))=left - ((x.url.length:Nat):Int):=wrap_i64 (by omega) (by omega)
 by_cases k0:left - ((x.url.length:Nat):Int) < 0
 · rw [l8 (by omega)]
   simp [d9,i6,j9,b9,d7,f9,tx,num,b8,i7,w0,k0]
 · rw [L6 (by omega)]
   simp [d9,i6,j9,b9,d7,f9,tx,num,b8,i7,w0,k0]
   try omega
theorem b54 (x:LTarget) (hx:U9 1048576 x):d8 Tryz.prog 295 [.val (f9 x)] (.ret (.val (f9 x)) []) []:=by
 refine f8 mixed ok295 rfl (fun _=>rfl) ?_
 unfold ir295
 rw [b6]
 unfold U9 at hx
 have b0:=hx
 simp [d9,i6,j9,b9,d7,f9,tx,num,i7]
 refine (b8x (id:=2) (n:=3) (rs:=[tx x.url,num x.prio,num x.weight]) ?_ ?_ rfl (by omega)).trans ?_
 · simp
 · simp [tx,num]
 · simp [f9,tx,num,i7]
theorem b57 (x:LTarget) (hx:U9 1048576 x):d8 Tryz.prog 135 [.val (f9 x),.val (f9 x)] (.ret (.val (.bool true)) []) []:=by
 refine f8 mixed ok135 rfl (fun _=>rfl) ?_
 unfold ir135
 rw [b6]
 unfold U9 at hx
 have b0:=hx
 simp [d9,i6,j9,b9,d7,f9,tx,num,i7]
theorem c14 (l:List LTarget) (left:Int) (h0:0≤left) (h1:left≤1048576) (hx:bdS 9223372036854775807 (U9 9223372036854775807) l):d8 Tryz.prog 223 [.val (.list 3 (l.map f9)),.val (num left)] (.ret (.val (num (cut left (zS S6 l)))) []) []:=by
 refine f8 mixed ok223 rfl (fun _=>rfl) ?_
 unfold ir223
 rw [b6]
 have hl:l.length≤9223372036854775807:=hx.1
 have hw:IntKind.i64.wrap (left - (l.length:Int))=left - l.length:=wrap_i64 (by omega) (by omega)
 have hzs:zS S6 l=l.length+G8 S6 l:=rfl
 by_cases h:left - (l.length:Int) < 0
 · rw [l8 (by omega)]
   simp [d9,i6,j9,b9,d7,num,hw,h]
 · simp [d9,i6,j9,b9,d7,num,hw,h]
   refine j8 (X:=Nat) (fun i=>⟨u0 [(0,.val (.list 3 (l.map f9))),(1,.val (num (left - l.length - (G8 S6 (l.take i):Nat)))),(5,.val (num i))],u5 []⟩) (fun i=>i≤l.length∧0≤left - l.length - (G8 S6 (l.take i):Nat)) (fun i=>l.length - i) 0 (Le.mk _ _ ?_ ?_) ?_ ?_
   · simp [upd,num,G8,PV.kill]
   · simp
   · simp [G8];omega
   · rintro i ⟨hi,hg⟩
     simp [num]
     refine f7 (fun h2=>?_) (fun h2=>?_)
     · have e1:(l.map f9)[i]?.getD .nilptr=f9 l[i]:=by simp [List.getElem?_eq_getElem h2]
       have hsn:G8 S6 (l.take (i+1))=G8 S6 (l.take i)+S6 l[i]:=a1k _ h2
       have hle:=a4d (f:=S6) l (i+1)
       simp [num,h2,e1,f9,tx]
       refine b7 rfl rfl (.inl rfl) (b56 l[i] (left - l.length - (G8 S6 (l.take i):Nat)) (by omega) (by omega) (hx.2 _ (List.getElem_mem h2))) ?_
       by_cases h3:left - (l.length:Int) - (G8 S6 (l.take i):Int) - (S6 l[i]:Int) < 0
       · have c1:cut (left - l.length - (G8 S6 (l.take i):Nat)) (S6 l[i])=-1:=l8 (by omega)
         have c2:cut left (zS S6 l)=-1:=l8 (by omega)
         rw [c1,c2]
         simp [num]
       · have c1:cut (left - l.length - (G8 S6 (l.take i):Nat)) (S6 l[i])=left - l.length - (G8 S6 (l.take i):Nat) - (S6 l[i]:Nat):=L6 (by omega)
         rw [c1]
         simp [num,h3]
         refine LoopNext.mk (i+1) ⟨by omega,by omega⟩ (by omega) (Le.mk _ _ ?_ ?_)
         · simp [num]
           exact ⟨by omega,wrap_i64 (by omega) (by omega)⟩
         · simp
     · have e1:i=l.length:=by omega
       subst e1
       rw [List.take_length] at *
       rw [L6 (by omega)]
       simp [num]
       omega
theorem c17 (l:List LTarget) (hx:bdS 1048576 (U9 1048576) l):d8 Tryz.prog 76 [.val (.list 3 (l.map f9)),.val (.list 3 (l.map f9))] (.ret (.val (.bool true)) []) []:=by
 refine f8 mixed ok76 rfl (fun _=>rfl) ?_
 unfold ir76
 rw [b6]
 have hl:l.length≤1048576:=hx.1
 simp [d9,i6,j9,b9,d7,num]
 refine j8 (X:=Nat) (fun i=>⟨u0 [(0,.val (.list 3 (l.map f9))),(1,.val (.list 3 (l.map f9))),(5,.val (num i))],u5 []⟩) (fun i=>i≤l.length) (fun i=>l.length - i) 0 (Le.mk _ _ ?_ ?_) ?_ ?_
 · simp [upd,num,PV.kill]
 · simp
 · simp
 · intro i hi
   simp [num]
   refine f7 (fun h1=>?_) (fun h1=>?_)
   · have e1:(l.map f9)[i]?.getD .nilptr=f9 l[i]:=by simp [List.getElem?_eq_getElem h1]
     simp [num,h1,e1,f9,tx]
     refine b7 rfl rfl (.inl rfl) (b57 l[i] (hx.2 _ (List.getElem_mem h1))) ?_
     simp
     refine LoopNext.mk (i+1) (by omega) (by omega) (Le.mk _ _ ?_ ?_)
     · simp [num];exact wrap_i64 (by omega) (by omega)
     · simp
   · simp
theorem c8k (x:LGroup) (left:Int) (h0:0≤left) (h1:left≤1048576) (hx:a2d 9223372036854775807 x):d8 Tryz.prog 160 [.val (M4 x),.val (num left)] (.ret (.val (num (cut left (a3y x)))) []) []:=by
 refine f8 mixed ok160 rfl (fun _=>rfl) ?_
 unfold ir160
 rw [b6]
 unfold a2d at hx
 obtain ⟨b0,b1⟩:=hx
 unfold a3y
 have w0:IntKind.i64.wrap (left - ((x.name.length:Nat):Int))=left - ((x.name.length:Nat):Int):=wrap_i64 (by omega) (by omega)
 by_cases k0:left - ((x.name.length:Nat):Int) < 0
 · rw [l8 (by omega)]
   simp [d9,i6,j9,b9,d7,M4,tx,num,b8,i7,w0,k0]
 · simp [d9,i6,j9,b9,d7,M4,tx,num,b8,i7,w0,k0]
   refine b7 rfl rfl (.inl rfl) (c14 x.targets (left - (x.name.length:Nat)) (by omega) (by omega) b1) ?_
   by_cases k1:(left - (x.name.length:Nat)) - ((zS S6 x.targets:Nat):Int) < 0
   · first | rw [l8 (by omega),l8 (by omega)] | rw [l8 (by omega)]
     simp [M4,tx,num,b8,i7]
   · first | rw [L6 (by omega),L6 (by omega)] | rw [L6 (by omega)]
     simp [M4,tx,num,b8,i7,k0,k1]
     try omega
theorem c8p (x:LGroup) (hx:a2d 1048576 x):d8 Tryz.prog 24 [.val (M4 x),.val (M4 x)] (.ret (.val (.bool true)) []) []:=by
 refine f8 mixed ok24 rfl (fun _=>rfl) ?_
 unfold ir24
 rw [b6]
 unfold a2d at hx
 obtain ⟨b0,b1⟩:=hx
 simp [d9,i6,j9,b9,d7,M4,tx,num,i7]
 refine b7 rfl rfl (.inl rfl) (c17 x.targets b1) ?_
 simp [M4,tx,num,i7]
end Go.Proofs
end
section
namespace Go.Proofs
open Go.PW Go.KP
attribute [local simp] RV.cells RV.one PV.cells PV.solid PV.one G6 i7 M3 L4 RV.ofCells elems PV.killL
variable [GF]
theorem d1b (l:List Int) (left:Int) (h0:0≤left) (h1:left≤1048576) (hl:l.length≤9223372036854775807):d8 Tryz.prog 163 [.val (.list 1 (l.map num)),.val (num left)] (.ret (.val (num (cut left l.length))) []) []:=by
 refine f8 mixed ok163 rfl (fun _=>rfl) ?_
 unfold ir163
 rw [b6]
 have hw:IntKind.i64.wrap (left - (l.length:Int))=left - l.length:=wrap_i64 (by omega) (by omega)
 by_cases h:left - (l.length:Int) < 0
 · rw [l8 (by omega)]
   simp [d9,i6,j9,b9,d7,num,hw,h]
 · rw [L6 (by omega)]
   simp [d9,i6,j9,b9,d7,num,hw,h]
theorem d1g (l:List Int) (hx:l.length≤1048576):d8 Tryz.prog 16 [.val (.list 1 (l.map num)),.val (.list 1 (l.map num))] (.ret (.val (.bool true)) []) []:=by
 refine f8 mixed ok16 rfl (fun _=>rfl) ?_
 unfold ir16
 rw [b6]
 have hl:l.length≤1048576:=hx
 simp [d9,i6,j9,b9,d7,num]
 refine j8 (X:=Nat) (fun i=>⟨u0 [(0,.val (.list 1 (l.map num))),(1,.val (.list 1 (l.map num))),(5,.val (num i))],u5 []⟩) (fun i=>i≤l.length) (fun i=>l.length - i) 0 (Le.mk _ _ ?_ ?_) ?_ ?_
 · simp [upd,num,PV.kill]
 · simp
 · simp
 · intro i hi
   simp [num]
   refine f7 (fun h1=>?_) (fun h1=>?_)
   · have e1:(l.map num)[i]?.getD .nilptr=num l[i]:=by simp [List.getElem?_eq_getElem h1]
     simp [num,h1,e1,tx]
     refine LoopNext.mk (i+1) (by omega) (by omega) (Le.mk _ _ ?_ ?_)
     · simp [num];exact wrap_i64 (by omega) (by omega)
     · simp
   · simp
theorem c44 (x:LReport) (left:Int) (h0:0≤left) (h1:left≤1048576) (hx:X9 9223372036854775807 x):d8 Tryz.prog 294 [.val (i8 x),.val (num left)] (.ret (.val (num (cut left (S0 x)))) []) []:=by
 refine f8 mixed ok294 rfl (fun _=>rfl) ?_
 unfold ir294
 rw [b6]
 unfold X9 at hx
 have b0:=hx
 unfold S0
 have w0:IntKind.i64.wrap (left - ((x.body.length:Nat):Int))=left - ((x.body.length:Nat):Int):=wrap_i64 (by omega) (by omega)
 by_cases k0:left - ((x.body.length:Nat):Int) < 0
 · rw [l8 (by omega)]
   simp [d9,i6,j9,b9,d7,i8,tx,num,b8,i7,w0,k0]
 · rw [L6 (by omega)]
   simp [d9,i6,j9,b9,d7,i8,tx,num,b8,i7,w0,k0]
   try omega
theorem c43 (x:LReport) (hx:X9 1048576 x):d8 Tryz.prog 296 [.val (i8 x)] (.ret (.val (i8 x)) []) []:=by
 refine f8 mixed ok296 rfl (fun _=>rfl) ?_
 unfold ir296
 rw [b6]
 unfold X9 at hx
 have b0:=hx
 simp [d9,i6,j9,b9,d7,i8,tx,num,i7]
 refine (b8x (id:=2) (n:=4) (rs:=[num x.id,num x.born,num x.tries,tx x.body]) ?_ ?_ rfl (by omega)).trans ?_
 · simp
 · simp [tx,num]
 · simp [i8,tx,num,i7]
theorem c48 (x:LReport) (hx:X9 1048576 x):d8 Tryz.prog 297 [.val (i8 x),.val (i8 x)] (.ret (.val (.bool true)) []) []:=by
 refine f8 mixed ok297 rfl (fun _=>rfl) ?_
 unfold ir297
 rw [b6]
 unfold X9 at hx
 have b0:=hx
 simp [d9,i6,j9,b9,d7,i8,tx,num,i7]
theorem c15 (l:List LReport) (left:Int) (h0:0≤left) (h1:left≤1048576) (hx:bdS 9223372036854775807 (X9 9223372036854775807) l):d8 Tryz.prog 225 [.val (.list 4 (l.map i8)),.val (num left)] (.ret (.val (num (cut left (zS S0 l)))) []) []:=by
 refine f8 mixed ok225 rfl (fun _=>rfl) ?_
 unfold ir225
 rw [b6]
 have hl:l.length≤9223372036854775807:=hx.1
 have hw:IntKind.i64.wrap (left - (l.length:Int))=left - l.length:=wrap_i64 (by omega) (by omega)
 have hzs:zS S0 l=l.length+G8 S0 l:=rfl
 by_cases h:left - (l.length:Int) < 0
 · rw [l8 (by omega)]
   simp [d9,i6,j9,b9,d7,num,hw,h]
 · simp [d9,i6,j9,b9,d7,num,hw,h]
   refine j8 (X:=Nat) (fun i=>⟨u0 [(0,.val (.list 4 (l.map i8))),(1,.val (num (left - l.length - (G8 S0 (l.take i):Nat)))),(5,.val (num i))],u5 []⟩) (fun i=>i≤l.length∧0≤left - l.length - (G8 S0 (l.take i):Nat)) (fun i=>l.length - i) 0 (Le.mk _ _ ?_ ?_) ?_ ?_
   · simp [upd,num,G8,PV.kill]
   · simp
   · simp [G8];omega
   · rintro i ⟨hi,hg⟩
     simp [num]
     refine f7 (fun h2=>?_) (fun h2=>?_)
     · have e1:(l.map i8)[i]?.getD .nilptr=i8 l[i]:=by simp [List.getElem?_eq_getElem h2]
       have hsn:G8 S0 (l.take (i+1))=G8 S0 (l.take i)+S0 l[i]:=a1k _ h2
       have hle:=a4d (f:=S0) l (i+1)
       simp [num,h2,e1,i8,tx]
       refine b7 rfl rfl (.inl rfl) (c44 l[i] (left - l.length - (G8 S0 (l.take i):Nat)) (by omega) (by omega) (hx.2 _ (List.getElem_mem h2))) ?_
       by_cases h3:left - (l.length:Int) - (G8 S0 (l.take i):Int) - (S0 l[i]:Int) < 0
       · have c1:cut (left - l.length - (G8 S0 (l.take i):Nat)) (S0 l[i])=-1:=l8 (by omega)
         have c2:cut left (zS S0 l)=-1:=l8 (by omega)
         rw [c1,c2]
         simp [num]
       · have c1:cut (left - l.length - (G8 S0 (l.take i):Nat)) (S0 l[i])=left - l.length - (G8 S0 (l.take i):Nat) - (S0 l[i]:Nat):=L6 (by omega)
         rw [c1]
         simp [num,h3]
         refine LoopNext.mk (i+1) ⟨by omega,by omega⟩ (by omega) (Le.mk _ _ ?_ ?_)
         · simp [num]
           exact ⟨by omega,wrap_i64 (by omega) (by omega)⟩
         · simp
     · have e1:i=l.length:=by omega
       subst e1
       rw [List.take_length] at *
       rw [L6 (by omega)]
       simp [num]
       omega
theorem c18 (l:List LReport) (hx:bdS 1048576 (X9 1048576) l):d8 Tryz.prog 230 [.val (.list 4 (l.map i8)),.val (.list 4 (l.map i8))] (.ret (.val (.bool true)) []) []:=by
 refine f8 mixed ok230 rfl (fun _=>rfl) ?_
 unfold ir230
 rw [b6]
 have hl:l.length≤1048576:=hx.1
 simp [d9,i6,j9,b9,d7,num]
 refine j8 (X:=Nat) (fun i=>⟨u0 [(0,.val (.list 4 (l.map i8))),(1,.val (.list 4 (l.map i8))),(5,.val (num i))],u5 []⟩) (fun i=>i≤l.length) (fun i=>l.length - i) 0 (Le.mk _ _ ?_ ?_) ?_ ?_
 · simp [upd,num,PV.kill]
 · simp
 · simp
 · intro i hi
   simp [num]
   refine f7 (fun h1=>?_) (fun h1=>?_)
   · have e1:(l.map i8)[i]?.getD .nilptr=i8 l[i]:=by simp [List.getElem?_eq_getElem h1]
     simp [num,h1,e1,i8,tx]
     refine b7 rfl rfl (.inl rfl) (c48 l[i] (hx.2 _ (List.getElem_mem h1))) ?_
     simp
     refine LoopNext.mk (i+1) (by omega) (by omega) (Le.mk _ _ ?_ ?_)
     · simp [num];exact wrap_i64 (by omega) (by omega)
     · simp
   · simp
theorem c8i (x:LQueue) (left:Int) (h0:0≤left) (h1:left≤1048576) (hx:a2y 9223372036854775807 x):d8 Tryz.prog 162 [.val (L5 x),.val (num left)] (.ret (.val (num (cut left (a95 x)))) []) []:=by
 refine f8 mixed ok162 rfl (fun _=>rfl) ?_
 unfold ir162
 rw [b6]
 unfold a2y at hx
 obtain ⟨b0,b1⟩:=hx
 unfold a95
 simp [d9,i6,j9,b9,d7,L5,tx,num,b8,i7]
 refine b7 rfl rfl (.inl rfl) (c15 x.items left (by omega) (by omega) b0) ?_
 by_cases k0:left - ((zS S0 x.items:Nat):Int) < 0
 · first | rw [l8 (by omega),l8 (by omega)] | rw [l8 (by omega)]
   simp [L5,tx,num,b8,i7]
 · rw [L6 (show ¬ left - ((zS S0 x.items:Nat):Int) < 0 by omega)]
   simp [L5,tx,num,b8,i7,k0]
   refine b7 rfl rfl (.inl rfl) (a8l x.recent (left - (zS S0 x.items:Nat)) (by omega) (by omega) b1) ?_
   by_cases k1:(left - (zS S0 x.items:Nat)) - ((zS List.length x.recent:Nat):Int) < 0
   · first | rw [l8 (by omega),l8 (by omega)] | rw [l8 (by omega)]
     simp [L5,tx,num,b8,i7]
   · first | rw [L6 (by omega),L6 (by omega)] | rw [L6 (by omega)]
     simp [L5,tx,num,b8,i7,k0,k1]
     try omega
theorem c8n (x:LQueue) (hx:a2y 1048576 x):d8 Tryz.prog 169 [.val (L5 x),.val (L5 x)] (.ret (.val (.bool true)) []) []:=by
 refine f8 mixed ok169 rfl (fun _=>rfl) ?_
 unfold ir169
 rw [b6]
 unfold a2y at hx
 obtain ⟨b0,b1⟩:=hx
 simp [d9,i6,j9,b9,d7,L5,tx,num,i7]
 refine b7 rfl rfl (.inl rfl) (c18 x.items b0) ?_
 simp [L5,tx,num,i7]
 refine b7 rfl rfl (.inl rfl) (a50 x.recent b1) ?_
 simp [L5,tx,num,i7]
theorem d1a (x:LPeer) (left:Int) (h0:0≤left) (h1:left≤1048576) (hx:a1n 9223372036854775807 x):d8 Tryz.prog 224 [.val (A6 x),.val (num left)] (.ret (.val (num (cut left (Z9 x)))) []) []:=by
 refine f8 mixed ok224 rfl (fun _=>rfl) ?_
 unfold ir224
 rw [b6]
 unfold a1n at hx
 have b0:=hx
 unfold Z9
 simp [d9,i6,j9,b9,d7,f9,A6,tx,num,b8,i7]
 refine b7 rfl rfl (.inl rfl) (b56 x.target left (by omega) (by omega) b0) ?_
 by_cases k0:left - ((S6 x.target:Nat):Int) < 0
 · first | rw [l8 (by omega),l8 (by omega)] | rw [l8 (by omega)]
   simp [f9,A6,tx,num,b8,i7]
 · first | rw [L6 (by omega),L6 (by omega)] | rw [L6 (by omega)]
   simp [f9,A6,tx,num,b8,i7,k0]
   try omega
theorem d06 (x:LPeer) (hx:a1n 1048576 x):d8 Tryz.prog 227 [.val (A6 x)] (.ret (.val (A6 x)) []) []:=by
 refine f8 mixed ok227 rfl (fun _=>rfl) ?_
 unfold ir227
 rw [b6]
 unfold a1n at hx
 have b0:=hx
 simp [d9,i6,j9,b9,d7,f9,A6,tx,num,i7]
 refine b7 rfl rfl (.inl rfl) (b54 x.target b0) ?_
 simp [f9,A6,tx,num,i7]
 refine (b8x (id:=2) (n:=6) (rs:=[tx x.target.url,num x.target.prio,num x.target.weight,num x.fails,num x.retry,.bool x.gone]) ?_ ?_ rfl (by omega)).trans ?_
 · simp
 · simp [tx,num]
 · simp [f9,A6,tx,num,i7]
theorem d1f (x:LPeer) (hx:a1n 1048576 x):d8 Tryz.prog 229 [.val (A6 x),.val (A6 x)] (.ret (.val (.bool true)) []) []:=by
 refine f8 mixed ok229 rfl (fun _=>rfl) ?_
 unfold ir229
 rw [b6]
 unfold a1n at hx
 have b0:=hx
 simp [d9,i6,j9,b9,d7,f9,A6,tx,num,i7]
 refine b7 rfl rfl (.inl rfl) (b57 x.target b0) ?_
 simp [f9,A6,tx,num,i7]
theorem c8j (l:List LPeer) (left:Int) (h0:0≤left) (h1:left≤1048576) (hx:bdS 9223372036854775807 (a1n 9223372036854775807) l):d8 Tryz.prog 161 [.val (.list 6 (l.map A6)),.val (num left)] (.ret (.val (num (cut left (zS Z9 l)))) []) []:=by
 refine f8 mixed ok161 rfl (fun _=>rfl) ?_
 unfold ir161
 rw [b6]
 have hl:l.length≤9223372036854775807:=hx.1
 have hw:IntKind.i64.wrap (left - (l.length:Int))=left - l.length:=wrap_i64 (by omega) (by omega)
 have hzs:zS Z9 l=l.length+G8 Z9 l:=rfl
 by_cases h:left - (l.length:Int) < 0
 · rw [l8 (by omega)]
   simp [d9,i6,j9,b9,d7,num,hw,h]
 · simp [d9,i6,j9,b9,d7,num,hw,h]
   refine j8 (X:=Nat) (fun i=>⟨u0 [(0,.val (.list 6 (l.map A6))),(1,.val (num (left - l.length - (G8 Z9 (l.take i):Nat)))),(5,.val (num i))],u5 []⟩) (fun i=>i≤l.length∧0≤left - l.length - (G8 Z9 (l.take i):Nat)) (fun i=>l.length - i) 0 (Le.mk _ _ ?_ ?_) ?_ ?_
   · simp [upd,num,G8,PV.kill]
   · simp
   · simp [G8];omega
   · rintro i ⟨hi,hg⟩
     simp [num]
     refine f7 (fun h2=>?_) (fun h2=>?_)
     · have e1:(l.map A6)[i]?.getD .nilptr=A6 l[i]:=by simp [List.getElem?_eq_getElem h2]
       have hsn:G8 Z9 (l.take (i+1))=G8 Z9 (l.take i)+Z9 l[i]:=a1k _ h2
       have hle:=a4d (f:=Z9) l (i+1)
       simp [num,h2,e1,f9,A6,tx]
       refine b7 rfl rfl (.inl rfl) (d1a l[i] (left - l.length - (G8 Z9 (l.take i):Nat)) (by omega) (by omega) (hx.2 _ (List.getElem_mem h2))) ?_
       by_cases h3:left - (l.length:Int) - (G8 Z9 (l.take i):Int) - (Z9 l[i]:Int) < 0
       · have c1:cut (left - l.length - (G8 Z9 (l.take i):Nat)) (Z9 l[i])=-1:=l8 (by omega)
         have c2:cut left (zS Z9 l)=-1:=l8 (by omega)
         rw [c1,c2]
         simp [num]
       · have c1:cut (left - l.length - (G8 Z9 (l.take i):Nat)) (Z9 l[i])=left - l.length - (G8 Z9 (l.take i):Nat) - (Z9 l[i]:Nat):=L6 (by omega)
         rw [c1]
         simp [num,h3]
         refine LoopNext.mk (i+1) ⟨by omega,by omega⟩ (by omega) (Le.mk _ _ ?_ ?_)
         · simp [num]
           exact ⟨by omega,wrap_i64 (by omega) (by omega)⟩
         · simp
     · have e1:i=l.length:=by omega
       subst e1
       rw [List.take_length] at *
       rw [L6 (by omega)]
       simp [num]
       omega
theorem c8o (l:List LPeer) (hx:bdS 1048576 (a1n 1048576) l):d8 Tryz.prog 168 [.val (.list 6 (l.map A6)),.val (.list 6 (l.map A6))] (.ret (.val (.bool true)) []) []:=by
 refine f8 mixed ok168 rfl (fun _=>rfl) ?_
 unfold ir168
 rw [b6]
 have hl:l.length≤1048576:=hx.1
 simp [d9,i6,j9,b9,d7,num]
 refine j8 (X:=Nat) (fun i=>⟨u0 [(0,.val (.list 6 (l.map A6))),(1,.val (.list 6 (l.map A6))),(5,.val (num i))],u5 []⟩) (fun i=>i≤l.length) (fun i=>l.length - i) 0 (Le.mk _ _ ?_ ?_) ?_ ?_
 · simp [upd,num,PV.kill]
 · simp
 · simp
 · intro i hi
   simp [num]
   refine f7 (fun h1=>?_) (fun h1=>?_)
   · have e1:(l.map A6)[i]?.getD .nilptr=A6 l[i]:=by simp [List.getElem?_eq_getElem h1]
     simp [num,h1,e1,f9,A6,tx]
     refine b7 rfl rfl (.inl rfl) (d1f l[i] (hx.2 _ (List.getElem_mem h1))) ?_
     simp
     refine LoopNext.mk (i+1) (by omega) (by omega) (Le.mk _ _ ?_ ?_)
     · simp [num];exact wrap_i64 (by omega) (by omega)
     · simp
   · simp
theorem c16 (x:LChannel) (left:Int) (h0:0≤left) (h1:left≤1048576) (hx:R4 9223372036854775807 x):d8 Tryz.prog 97 [.val (j6 x),.val (num left)] (.ret (.val (num (cut left (L9 x)))) []) []:=by
 refine f8 mixed ok97 rfl (fun _=>rfl) ?_
 unfold ir97
 rw [b6]
 unfold R4 at hx
 obtain ⟨b0,b1,b2⟩:=hx
 unfold L9
 simp [d9,i6,j9,b9,d7,M4,L5,j6,tx,num,b8,i7]
 refine b7 rfl rfl (.inl rfl) (c8k x.group left (by omega) (by omega) b0) ?_
 by_cases k0:left - ((a3y x.group:Nat):Int) < 0
 · first | rw [l8 (by omega),l8 (by omega)] | rw [l8 (by omega)]
   simp [M4,L5,j6,tx,num,b8,i7]
 · rw [L6 (show ¬ left - ((a3y x.group:Nat):Int) < 0 by omega)]
   simp [M4,L5,j6,tx,num,b8,i7,k0]
   refine b7 rfl rfl (.inl rfl) (c8j x.peers (left - (a3y x.group:Nat)) (by omega) (by omega) b1) ?_
   by_cases k1:(left - (a3y x.group:Nat)) - ((zS Z9 x.peers:Nat):Int) < 0
   · first | rw [l8 (by omega),l8 (by omega)] | rw [l8 (by omega)]
     simp [M4,L5,j6,tx,num,b8,i7]
   · rw [L6 (show ¬ (left - (a3y x.group:Nat)) - ((zS Z9 x.peers:Nat):Int) < 0 by omega)]
     simp [M4,L5,j6,tx,num,b8,i7,k0,k1]
     refine b7 rfl rfl (.inl rfl) (c8i x.queue (left - (a3y x.group:Nat) - (zS Z9 x.peers:Nat)) (by omega) (by omega) b2) ?_
     by_cases k2:(left - (a3y x.group:Nat) - (zS Z9 x.peers:Nat)) - ((a95 x.queue:Nat):Int) < 0
     · first | rw [l8 (by omega),l8 (by omega)] | rw [l8 (by omega)]
       simp [M4,L5,j6,tx,num,b8,i7]
     · first | rw [L6 (by omega),L6 (by omega)] | rw [L6 (by omega)]
       simp [M4,L5,j6,tx,num,b8,i7,k0,k1,k2]
       try omega
theorem c19 (x:LChannel) (hx:R4 1048576 x):d8 Tryz.prog 105 [.val (j6 x),.val (j6 x)] (.ret (.val (.bool true)) []) []:=by
 refine f8 mixed ok105 rfl (fun _=>rfl) ?_
 unfold ir105
 rw [b6]
 unfold R4 at hx
 obtain ⟨b0,b1,b2⟩:=hx
 simp [d9,i6,j9,b9,d7,M4,L5,j6,tx,num,i7]
 refine b7 rfl rfl (.inl rfl) (c8p x.group b0) ?_
 simp [M4,L5,j6,tx,num,i7]
 refine b7 rfl rfl (.inl rfl) (c8o x.peers b1) ?_
 simp [M4,L5,j6,tx,num,i7]
 refine b7 rfl rfl (.inl rfl) (c8n x.queue b2) ?_
 simp [M4,L5,j6,tx,num,i7]
theorem b90 (l:List LChannel) (left:Int) (h0:0≤left) (h1:left≤1048576) (hx:bdS 9223372036854775807 (R4 9223372036854775807) l):d8 Tryz.prog 46 [.val (.list 6 (l.map j6)),.val (num left)] (.ret (.val (num (cut left (zS L9 l)))) []) []:=by
 refine f8 mixed ok46 rfl (fun _=>rfl) ?_
 unfold ir46
 rw [b6]
 have hl:l.length≤9223372036854775807:=hx.1
 have hw:IntKind.i64.wrap (left - (l.length:Int))=left - l.length:=wrap_i64 (by omega) (by omega)
 have hzs:zS L9 l=l.length+G8 L9 l:=rfl
 by_cases h:left - (l.length:Int) < 0
 · rw [l8 (by omega)]
   simp [d9,i6,j9,b9,d7,num,hw,h]
 · simp [d9,i6,j9,b9,d7,num,hw,h]
   refine j8 (X:=Nat) (fun i=>⟨u0 [(0,.val (.list 6 (l.map j6))),(1,.val (num (left - l.length - (G8 L9 (l.take i):Nat)))),(5,.val (num i))],u5 []⟩) (fun i=>i≤l.length∧0≤left - l.length - (G8 L9 (l.take i):Nat)) (fun i=>l.length - i) 0 (Le.mk _ _ ?_ ?_) ?_ ?_
   · simp [upd,num,G8,PV.kill]
   · simp
   · simp [G8];omega
   · rintro i ⟨hi,hg⟩
     simp [num]
     refine f7 (fun h2=>?_) (fun h2=>?_)
     · have e1:(l.map j6)[i]?.getD .nilptr=j6 l[i]:=by simp [List.getElem?_eq_getElem h2]
       have hsn:G8 L9 (l.take (i+1))=G8 L9 (l.take i)+L9 l[i]:=a1k _ h2
       have hle:=a4d (f:=L9) l (i+1)
       simp [num,h2,e1,M4,L5,j6,tx]
       refine b7 rfl rfl (.inl rfl) (c16 l[i] (left - l.length - (G8 L9 (l.take i):Nat)) (by omega) (by omega) (hx.2 _ (List.getElem_mem h2))) ?_
       by_cases h3:left - (l.length:Int) - (G8 L9 (l.take i):Int) - (L9 l[i]:Int) < 0
       · have c1:cut (left - l.length - (G8 L9 (l.take i):Nat)) (L9 l[i])=-1:=l8 (by omega)
         have c2:cut left (zS L9 l)=-1:=l8 (by omega)
         rw [c1,c2]
         simp [num]
       · have c1:cut (left - l.length - (G8 L9 (l.take i):Nat)) (L9 l[i])=left - l.length - (G8 L9 (l.take i):Nat) - (L9 l[i]:Nat):=L6 (by omega)
         rw [c1]
         simp [num,h3]
         refine LoopNext.mk (i+1) ⟨by omega,by omega⟩ (by omega) (Le.mk _ _ ?_ ?_)
         · simp [num]
           exact ⟨by omega,wrap_i64 (by omega) (by omega)⟩
         · simp
     · have e1:i=l.length:=by omega
       subst e1
       rw [List.take_length] at *
       rw [L6 (by omega)]
       simp [num]
       omega
theorem b91 (l:List LChannel) (hx:bdS 1048576 (R4 1048576) l):d8 Tryz.prog 56 [.val (.list 6 (l.map j6)),.val (.list 6 (l.map j6))] (.ret (.val (.bool true)) []) []:=by
 refine f8 mixed ok56 rfl (fun _=>rfl) ?_
 unfold ir56
 rw [b6]
 have hl:l.length≤1048576:=hx.1
 simp [d9,i6,j9,b9,d7,num]
 refine j8 (X:=Nat) (fun i=>⟨u0 [(0,.val (.list 6 (l.map j6))),(1,.val (.list 6 (l.map j6))),(5,.val (num i))],u5 []⟩) (fun i=>i≤l.length) (fun i=>l.length - i) 0 (Le.mk _ _ ?_ ?_) ?_ ?_
 · simp [upd,num,PV.kill]
 · simp
 · simp
 · intro i hi
   simp [num]
   refine f7 (fun h1=>?_) (fun h1=>?_)
   · have e1:(l.map j6)[i]?.getD .nilptr=j6 l[i]:=by simp [List.getElem?_eq_getElem h1]
     simp [num,h1,e1,M4,L5,j6,tx]
     refine b7 rfl rfl (.inl rfl) (c19 l[i] (hx.2 _ (List.getElem_mem h1))) ?_
     simp
     refine LoopNext.mk (i+1) (by omega) (by omega) (Le.mk _ _ ?_ ?_)
     · simp [num];exact wrap_i64 (by omega) (by omega)
     · simp
   · simp
theorem c47 (l:List LEntry) (left:Int) (h0:0≤left) (h1:left≤1048576) (hl:l.length≤9223372036854775807):d8 Tryz.prog 47 [.val (.list 3 (l.map G5)),.val (num left)] (.ret (.val (num (cut left l.length))) []) []:=by
 refine f8 mixed ok47 rfl (fun _=>rfl) ?_
 unfold ir47
 rw [b6]
 have hw:IntKind.i64.wrap (left - (l.length:Int))=left - l.length:=wrap_i64 (by omega) (by omega)
 by_cases h:left - (l.length:Int) < 0
 · rw [l8 (by omega)]
   simp [d9,i6,j9,b9,d7,num,hw,h]
 · rw [L6 (by omega)]
   simp [d9,i6,j9,b9,d7,num,hw,h]
theorem c8f (x:LEntry) (hx:b1x 1048576 x):d8 Tryz.prog 102 [.val (G5 x)] (.ret (.val (G5 x)) []) []:=by
 refine f8 mixed ok102 rfl (fun _=>rfl) ?_
 unfold ir102
 rw [b6]
 simp [d9,i6,j9,b9,d7,G5,tx,num,i7]
 refine (b8x (id:=2) (n:=3) (rs:=[num x.kind,num x.id,num x.at_]) ?_ ?_ rfl (by omega)).trans ?_
 · simp
 · simp [tx,num]
 · simp [G5,tx,num,i7]
theorem c8q (x:LEntry) (hx:b1x 1048576 x):d8 Tryz.prog 106 [.val (G5 x),.val (G5 x)] (.ret (.val (.bool true)) []) []:=by
 refine f8 mixed ok106 rfl (fun _=>rfl) ?_
 unfold ir106
 rw [b6]
 simp [d9,i6,j9,b9,d7,G5,tx,num,i7]
theorem c5a (l:List LEntry) (hx:l.length≤1048576):d8 Tryz.prog 57 [.val (.list 3 (l.map G5)),.val (.list 3 (l.map G5))] (.ret (.val (.bool true)) []) []:=by
 refine f8 mixed ok57 rfl (fun _=>rfl) ?_
 unfold ir57
 rw [b6]
 have hl:l.length≤1048576:=hx
 simp [d9,i6,j9,b9,d7,num]
 refine j8 (X:=Nat) (fun i=>⟨u0 [(0,.val (.list 3 (l.map G5))),(1,.val (.list 3 (l.map G5))),(5,.val (num i))],u5 []⟩) (fun i=>i≤l.length) (fun i=>l.length - i) 0 (Le.mk _ _ ?_ ?_) ?_ ?_
 · simp [upd,num,PV.kill]
 · simp
 · simp
 · intro i hi
   simp [num]
   refine f7 (fun h1=>?_) (fun h1=>?_)
   · have e1:(l.map G5)[i]?.getD .nilptr=G5 l[i]:=by simp [List.getElem?_eq_getElem h1]
     simp [num,h1,e1,G5,tx]
     refine b7 rfl rfl (.inl rfl) (c8q l[i] trivial) ?_
     simp
     refine LoopNext.mk (i+1) (by omega) (by omega) (Le.mk _ _ ?_ ?_)
     · simp [num];exact wrap_i64 (by omega) (by omega)
     · simp
   · simp
theorem d07 (x:LWire) (left:Int) (h0:0≤left) (h1:left≤1048576) (hx:a0c 9223372036854775807 x):d8 Tryz.prog 98 [.val (I0 x),.val (num left)] (.ret (.val (num (cut left (a0f x)))) []) []:=by
 refine f8 mixed ok98 rfl (fun _=>rfl) ?_
 unfold ir98
 rw [b6]
 unfold a0c at hx
 obtain ⟨b0,b1,b2,b3⟩:=hx
 unfold a0f
 have w0:IntKind.i64.wrap (left - ((x.group.length:Nat):Int))=left - ((x.group.length:Nat):Int):=wrap_i64 (by omega) (by omega)
 by_cases k0:left - ((x.group.length:Nat):Int) < 0
 · rw [l8 (by omega)]
   simp [d9,i6,j9,b9,d7,I0,tx,num,b8,i7,w0,k0]
 · skip
   have w1:IntKind.i64.wrap ((left - (x.group.length:Nat)) - ((x.url.length:Nat):Int))=(left - (x.group.length:Nat)) - ((x.url.length:Nat):Int):=wrap_i64 (by omega) (by omega)
   by_cases k1:(left - (x.group.length:Nat)) - ((x.url.length:Nat):Int) < 0
   · rw [l8 (by omega)]
     simp [d9,i6,j9,b9,d7,I0,tx,num,b8,i7,w0,w1,k0,k1]
   · simp [d9,i6,j9,b9,d7,I0,tx,num,b8,i7,w0,w1,k0,k1]
     refine b7 rfl rfl (.inl rfl) (d1b x.ids (left - (x.group.length:Nat) - (x.url.length:Nat)) (by omega) (by omega) b2) ?_
     by_cases k2:(left - (x.group.length:Nat) - (x.url.length:Nat)) - ((x.ids.length:Nat):Int) < 0
     · first | rw [l8 (by omega),l8 (by omega)] | rw [l8 (by omega)]
       simp [I0,tx,num,b8,i7]
     · rw [L6 (show ¬ (left - (x.group.length:Nat) - (x.url.length:Nat)) - ((x.ids.length:Nat):Int) < 0 by omega)]
       simp [I0,tx,num,b8,i7,k0,k1,k2]
       have w3:IntKind.i64.wrap ((left - (x.group.length:Nat) - (x.url.length:Nat) - (x.ids.length:Nat)) - ((x.body.length:Nat):Int))=(left - (x.group.length:Nat) - (x.url.length:Nat) - (x.ids.length:Nat)) - ((x.body.length:Nat):Int):=wrap_i64 (by omega) (by omega)
       by_cases k3:(left - (x.group.length:Nat) - (x.url.length:Nat) - (x.ids.length:Nat)) - ((x.body.length:Nat):Int) < 0
       · rw [l8 (by omega)]
         simp [I0,tx,num,b8,i7,w0,w1,w3,k0,k1,k2,k3]
       · rw [L6 (by omega)]
         simp [I0,tx,num,b8,i7,w0,w1,w3,k0,k1,k2,k3]
         try omega
theorem d1c (x:LWire) (hx:a0c 1048576 x):d8 Tryz.prog 107 [.val (I0 x),.val (I0 x)] (.ret (.val (.bool true)) []) []:=by
 refine f8 mixed ok107 rfl (fun _=>rfl) ?_
 unfold ir107
 rw [b6]
 unfold a0c at hx
 obtain ⟨b0,b1,b2,b3⟩:=hx
 simp [d9,i6,j9,b9,d7,I0,tx,num,i7]
 refine b7 rfl rfl (.inl rfl) (d1g x.ids b2) ?_
 simp [I0,tx,num,i7]
theorem c8g (l:List LWire) (left:Int) (h0:0≤left) (h1:left≤1048576) (hx:bdS 9223372036854775807 (a0c 9223372036854775807) l):d8 Tryz.prog 48 [.val (.list 7 (l.map I0)),.val (num left)] (.ret (.val (num (cut left (zS a0f l)))) []) []:=by
 refine f8 mixed ok48 rfl (fun _=>rfl) ?_
 unfold ir48
 rw [b6]
 have hl:l.length≤9223372036854775807:=hx.1
 have hw:IntKind.i64.wrap (left - (l.length:Int))=left - l.length:=wrap_i64 (by omega) (by omega)
 have hzs:zS a0f l=l.length+G8 a0f l:=rfl
 by_cases h:left - (l.length:Int) < 0
 · rw [l8 (by omega)]
   simp [d9,i6,j9,b9,d7,num,hw,h]
 · simp [d9,i6,j9,b9,d7,num,hw,h]
   refine j8 (X:=Nat) (fun i=>⟨u0 [(0,.val (.list 7 (l.map I0))),(1,.val (num (left - l.length - (G8 a0f (l.take i):Nat)))),(5,.val (num i))],u5 []⟩) (fun i=>i≤l.length∧0≤left - l.length - (G8 a0f (l.take i):Nat)) (fun i=>l.length - i) 0 (Le.mk _ _ ?_ ?_) ?_ ?_
   · simp [upd,num,G8,PV.kill]
   · simp
   · simp [G8];omega
   · rintro i ⟨hi,hg⟩
     simp [num]
     refine f7 (fun h2=>?_) (fun h2=>?_)
     · have e1:(l.map I0)[i]?.getD .nilptr=I0 l[i]:=by simp [List.getElem?_eq_getElem h2]
       have hsn:G8 a0f (l.take (i+1))=G8 a0f (l.take i)+a0f l[i]:=a1k _ h2
       have hle:=a4d (f:=a0f) l (i+1)
       simp [num,h2,e1,I0,tx]
       refine b7 rfl rfl (.inl rfl) (d07 l[i] (left - l.length - (G8 a0f (l.take i):Nat)) (by omega) (by omega) (hx.2 _ (List.getElem_mem h2))) ?_
       by_cases h3:left - (l.length:Int) - (G8 a0f (l.take i):Int) - (a0f l[i]:Int) < 0
       · have c1:cut (left - l.length - (G8 a0f (l.take i):Nat)) (a0f l[i])=-1:=l8 (by omega)
         have c2:cut left (zS a0f l)=-1:=l8 (by omega)
         rw [c1,c2]
         simp [num]
       · have c1:cut (left - l.length - (G8 a0f (l.take i):Nat)) (a0f l[i])=left - l.length - (G8 a0f (l.take i):Nat) - (a0f l[i]:Nat):=L6 (by omega)
         rw [c1]
         simp [num,h3]
         refine LoopNext.mk (i+1) ⟨by omega,by omega⟩ (by omega) (Le.mk _ _ ?_ ?_)
         · simp [num]
           exact ⟨by omega,wrap_i64 (by omega) (by omega)⟩
         · simp
     · have e1:i=l.length:=by omega
       subst e1
       rw [List.take_length] at *
       rw [L6 (by omega)]
       simp [num]
       omega
theorem c8l (l:List LWire) (hx:bdS 1048576 (a0c 1048576) l):d8 Tryz.prog 58 [.val (.list 7 (l.map I0)),.val (.list 7 (l.map I0))] (.ret (.val (.bool true)) []) []:=by
 refine f8 mixed ok58 rfl (fun _=>rfl) ?_
 unfold ir58
 rw [b6]
 have hl:l.length≤1048576:=hx.1
 simp [d9,i6,j9,b9,d7,num]
 refine j8 (X:=Nat) (fun i=>⟨u0 [(0,.val (.list 7 (l.map I0))),(1,.val (.list 7 (l.map I0))),(5,.val (num i))],u5 []⟩) (fun i=>i≤l.length) (fun i=>l.length - i) 0 (Le.mk _ _ ?_ ?_) ?_ ?_
 · simp [upd,num,PV.kill]
 · simp
 · simp
 · intro i hi
   simp [num]
   refine f7 (fun h1=>?_) (fun h1=>?_)
   · have e1:(l.map I0)[i]?.getD .nilptr=I0 l[i]:=by simp [List.getElem?_eq_getElem h1]
     simp [num,h1,e1,I0,tx]
     refine b7 rfl rfl (.inl rfl) (d1c l[i] (hx.2 _ (List.getElem_mem h1))) ?_
     simp
     refine LoopNext.mk (i+1) (by omega) (by omega) (Le.mk _ _ ?_ ?_)
     · simp [num];exact wrap_i64 (by omega) (by omega)
     · simp
   · simp
theorem d09 (x:LPipe) (left:Int) (h0:0≤left) (h1:left≤1048576) (hx:a07 9223372036854775807 x):d8 Tryz.prog 9 [.val (L8 x),.val (num left)] (.ret (.val (num (cut left (b4k x)))) []) []:=by
 refine f8 mixed ok9 rfl (fun _=>rfl) ?_
 unfold ir9
 rw [b6]
 unfold a07 at hx
 obtain ⟨b0,b1,b2,b3⟩:=hx
 unfold b4k
 simp [d9,i6,j9,b9,d7,x5,L8,tx,num,b8,i7]
 refine b7 rfl rfl (.inl rfl) (b90 x.channels left (by omega) (by omega) b0) ?_
 by_cases k0:left - ((zS L9 x.channels:Nat):Int) < 0
 · first | rw [l8 (by omega),l8 (by omega)] | rw [l8 (by omega)]
   simp [x5,L8,tx,num,b8,i7]
 · rw [L6 (show ¬ left - ((zS L9 x.channels:Nat):Int) < 0 by omega)]
   simp [x5,L8,tx,num,b8,i7,k0]
   refine b7 rfl rfl (.inl rfl) (c45 x.policy (left - (zS L9 x.channels:Nat)) (by omega) (by omega) b1) ?_
   by_cases k1:(left - (zS L9 x.channels:Nat)) - ((a17 x.policy:Nat):Int) < 0
   · first | rw [l8 (by omega),l8 (by omega)] | rw [l8 (by omega)]
     simp [x5,L8,tx,num,b8,i7]
   · rw [L6 (show ¬ (left - (zS L9 x.channels:Nat)) - ((a17 x.policy:Nat):Int) < 0 by omega)]
     simp [x5,L8,tx,num,b8,i7,k0,k1]
     refine b7 rfl rfl (.inl rfl) (c47 x.log (left - (zS L9 x.channels:Nat) - (a17 x.policy:Nat)) (by omega) (by omega) b2) ?_
     by_cases k2:(left - (zS L9 x.channels:Nat) - (a17 x.policy:Nat)) - ((x.log.length:Nat):Int) < 0
     · first | rw [l8 (by omega),l8 (by omega)] | rw [l8 (by omega)]
       simp [x5,L8,tx,num,b8,i7]
     · rw [L6 (show ¬ (left - (zS L9 x.channels:Nat) - (a17 x.policy:Nat)) - ((x.log.length:Nat):Int) < 0 by omega)]
       simp [x5,L8,tx,num,b8,i7,k0,k1,k2]
       refine b7 rfl rfl (.inl rfl) (c8g x.wires (left - (zS L9 x.channels:Nat) - (a17 x.policy:Nat) - (x.log.length:Nat)) (by omega) (by omega) b3) ?_
       by_cases k3:(left - (zS L9 x.channels:Nat) - (a17 x.policy:Nat) - (x.log.length:Nat)) - ((zS a0f x.wires:Nat):Int) < 0
       · first | rw [l8 (by omega),l8 (by omega)] | rw [l8 (by omega)]
         simp [x5,L8,tx,num,b8,i7]
       · first | rw [L6 (by omega),L6 (by omega)] | rw [L6 (by omega)]
         simp [x5,L8,tx,num,b8,i7,k0,k1,k2,k3]
         try omega
theorem d1e (x:LPipe) (hx:a07 1048576 x):d8 Tryz.prog 13 [.val (L8 x),.val (L8 x)] (.ret (.val (.bool true)) []) []:=by
 refine f8 mixed ok13 rfl (fun _=>rfl) ?_
 unfold ir13
 rw [b6]
 unfold a07 at hx
 obtain ⟨b0,b1,b2,b3⟩:=hx
 simp [d9,i6,j9,b9,d7,x5,L8,tx,num,i7]
 refine b7 rfl rfl (.inl rfl) (b91 x.channels b0) ?_
 simp [x5,L8,tx,num,i7]
 refine b7 rfl rfl (.inl rfl) (c49 x.policy b1) ?_
 simp [x5,L8,tx,num,i7]
 refine b7 rfl rfl (.inl rfl) (c5a x.log b2) ?_
 simp [x5,L8,tx,num,i7]
 refine b7 rfl rfl (.inl rfl) (c8l x.wires b3) ?_
 simp [x5,L8,tx,num,i7]
end Go.Proofs
end
section
namespace Go.Proofs
open Go.PW Go.KP
attribute [local simp] RV.cells RV.one PV.cells PV.solid PV.one G6 i7 M3 L4 RV.ofCells elems PV.killL
variable [GF]
theorem b5v (r:LReport) (b1 b2 b3 b4:Bool) (h1:d8 Tryz.prog 108 [.val (.int .i64 r.id),.val (.int .i64 1),.val (.int .i64 1000000)] (.ret (.val (.bool b1)) []) []) (h2:d8 Tryz.prog 108 [.val (.int .i64 r.born),.val (.int .i64 0),.val (.int .i64 1000000)] (.ret (.val (.bool b2)) []) [])
 (h3:d8 Tryz.prog 108 [.val (.int .i64 r.tries),.val (.int .i64 0),.val (.int .i64 3)] (.ret (.val (.bool b3)) []) []) (h4:d8 Tryz.prog 108 [.val (.int .i64 r.body.length),.val (.int .i64 1),.val (.int .i64 8000)] (.ret (.val (.bool b4)) []) []) :
 d8 Tryz.prog 233 [.val (i8 r)] (.ret (.val (.bool (b1 && b2 && b3 && b4))) []) []:=by
 refine f8 mixed ok233 rfl (fun _=>rfl) ?_
 unfold ir233
 rw [b6]
 simp [d9,i6,j9,b9,d7,i8,tx,num,b8]
 refine b7 rfl rfl (.inl rfl) h1 ?_
 cases b1 with
 | false=>simp
 | true=>
  simp [num,b8]
  refine b7 rfl rfl (.inl rfl) h2 ?_
  cases b2 with
  | false=>simp
  | true=>
   simp [num,b8]
   refine b7 rfl rfl (.inl rfl) h3 ?_
   cases b3 with
   | false=>simp
   | true=>
    simp [num,b8]
    refine b7 rfl rfl (.inl rfl) h4 ?_
    cases b4<;>simp
theorem c2u (r:LReport):d8 Tryz.prog 233 [.val (i8 r)] (.ret (.val (.bool (Y6 r))) []) []:=by
 have h:=b5v r _ _ _ _ (U4 .i64 r.id 1 1000000) (U4 .i64 r.born 0 1000000) (U4 .i64 r.tries 0 3) (U4 .i64 r.body.length 1 8000)
 have q:(1≤r.body.length∧r.body.length≤8000)↔((1:Int)≤r.body.length∧(r.body.length:Int)≤8000):=by omega
 unfold Y6
 rw [decide_eq_decide.2 q]
 exact h
theorem c_l08At (l:List LChannel) (name:Tx) (hl:l.length < 1099511627776):d8 Tryz.prog 109 [.val (.list 6 (l.map j6)),.val (tx name)] (.ret (.val (num (a1i l fun r=>decide (r.group.name=name)))) []) []:=by
 refine f8 mixed ok109 rfl (fun _=>rfl) ?_
 unfold ir109
 rw [b6]
 simp [d9,i6,j9,b9,d7,num]
 refine j8 (X:=Nat) (fun i=>⟨u0 [(0,.val (.list 6 (l.map j6))),(1,.val (tx name)),(5,.val (num i))],u5 []⟩) (fun i=>i≤l.length∧∀ k (hk:k < i) (hk':k < l.length),l[k].group.name≠name) (fun i=>l.length - i) 0 (Le.mk _ _ ?_ ?_) ?_ ?_
 · simp [upd,num]
 · simp
 · simp
 · rintro i ⟨hi,hne⟩
   simp [num]
   refine f7 (fun h1=>?_) (fun h1=>?_)
   · have e1:(l.map j6)[i]?.getD .nilptr=j6 l[i]:=by simp [List.getElem?_eq_getElem h1]
     simp [num,h1,e1,j6,tx,L7]
     by_cases hu:l[i].group.name=name
     · have hh:a1i l (fun r=>decide (r.group.name=name))=i:=a0l h1 (by simp [hu]) (fun k hk=>by simp [hne k hk (by omega)])
       simp [hu,hh,num]
     · simp [hu]
       refine LoopNext.mk (i+1) ⟨by omega,fun k hk hk'=>?_⟩ (by omega) (Le.mk _ _ ?_ ?_)
       · by_cases e:k=i
         · subst e;exact hu
         · exact hne k (by omega) hk'
       · simp [num,tx];exact wrap_i64 (by omega) (by omega)
       · simp
   · have e:i=l.length:=by omega
     have hh:a1i l (fun r=>decide (r.group.name=name))=-1:=Y8 (fun k hk=>by simp [hne k (by omega) hk])
     simp [hh,num]
theorem c_l06OK (q:LQueue) (hb:a2y 1048576 q):d8 Tryz.prog 172 [.val (L5 q)] (.ret (.val (.bool (S7 q))) []) []:=by
 refine f8 mixed ok172 rfl (fun _=>rfl) ?_
 unfold ir172
 rw [b6]
 by_cases h5:q.items.length≤5
 rotate_left
 · have h5':(5:Int) < q.items.length:=by omega
   have:S7 q=false:=by unfold S7;rw [decide_eq_false h5];rfl
   simp [d9,i6,j9,b9,d7,L5,h5',this]
 have h5':¬ (5:Int) < q.items.length:=by omega
 by_cases h6:q.recent.length≤6
 rotate_left
 · have h6':(6:Int) < q.recent.length:=by omega
   have:S7 q=false:=by unfold S7;rw [decide_eq_false h6];simp
   simp [d9,i6,j9,b9,d7,L5,h5',h6',this]
 have h6':¬ (6:Int) < q.recent.length:=by omega
 have hfin:a0q q.items.length (a5b q.items)=true→a0q q.recent.length (a9u q.recent)=true→S7 q=true:=fun a b=>by
  unfold S7;rw [decide_eq_true h5,decide_eq_true h6,a,b];rfl
 simp [d9,i6,j9,b9,d7,L5,h5',h6']
 refine j8 (X:=Nat) (fun i=>⟨u0 [(1,.ptr 1 0),(3,.val (num i))],u5 [(1,.box [.val (.list 4 (q.items.map i8)),.val (.list 1 (q.recent.map tx))])]⟩) (fun i=>i≤q.items.length∧a0q i (a5b q.items)=true) (fun i=>q.items.length - i) 0 (Le.mk _ _ ?_ ?_) ?_ ?_
 · simp [upd,num]
 · simp
 · simp [a1l]
 · rintro i ⟨hi,hall⟩
   simp [num]
   refine f7 (fun h1=>?_) (fun h1=>?_)
   · have H0:=b1i (q:=q) h1
     have hsu:=a08 (a5b q.items) i
     rw [hall,Bool.true_and] at hsu
     obtain ⟨r,hr⟩:∃ r,q.items[i]=r:=⟨_,rfl⟩
     have hR:=c2u r
     have wi:IntKind.i64.wrap ((i:Int)+1)=((i+1:Nat):Int):=by rw [wrap_i64 (by omega) (by omega)];omega
     by_cases h0:i=0
     · subst h0
       rw [b48 h1,hr] at H0 hsu
       simp [num,h1,hr,i8,tx]
       refine l6 rfl rfl (.inl rfl) hR ?_
       cases hk:Y6 r with
       | false=>simp [H0 hk]
       | true=>
        simp [num]
        refine LoopNext.mk 1 ⟨by omega,by rw [hsu,hk]⟩ (by omega) (Le.mk _ _ ?_ ?_)
        · simp [num,upd];decide
        · simp [tx]
     · obtain ⟨j,hij⟩:∃ j,i=j+1:=⟨i - 1,by omega⟩
       have hj:j < q.items.length:=by omega
       obtain ⟨s,hs⟩:∃ s,q.items[j]=s:=⟨_,rfl⟩
       have hra:a5b q.items i=(Y6 r && (decide (s.id < r.id) && decide (s.born≤r.born))):=by
        subst hij;rw [b49 h1,hr,hs]
       rw [hra] at H0 hsu
       have wj:IntKind.i64.wrap ((i:Int) - 1)=(j:Int):=by rw [wrap_i64 (by omega) (by omega)];omega
       have hp:0 < i:=by omega
       simp [num,h1,hr,i8,tx]
       refine l6 rfl rfl (.inl rfl) hR ?_
       cases hk:Y6 r with
       | false=>simp [H0 (by rw [hk];rfl)]
       | true=>
        rw [hk,Bool.true_and] at H0 hsu
        by_cases hA:s.id < r.id
        · have hA':¬ r.id≤s.id:=by omega
          by_cases hB:s.born≤r.born
          · have hB':¬ r.born < s.born:=by omega
            simp [num,h1,hr,hs,hj,hp,wj,i8,tx,hA',hB']
            refine LoopNext.mk (i+1) ⟨by omega,by rw [hsu,decide_eq_true hA,decide_eq_true hB];rfl⟩ (by omega) (Le.mk _ _ ?_ ?_)
            · simp [num,wi]
            · simp [tx]
          · have hB':r.born < s.born:=by omega
            simp [num,h1,hr,hs,hj,hp,wj,i8,tx,hA',hB',H0 (by rw [decide_eq_false hB,Bool.and_false])]
        · have hA':r.id≤s.id:=by omega
          simp [num,h1,hr,hs,hj,hp,wj,i8,tx,hA',H0 (by rw [decide_eq_false hA,Bool.false_and])]
   · have e:i=q.items.length:=by omega
     subst e
     simp [num]
     refine j8 (X:=Nat) (fun i=>⟨u0 [(1,.ptr 1 0),(4,.val (num i))],u5 [(1,.box [.val (.list 4 (q.items.map i8)),.val (.list 1 (q.recent.map tx))])]⟩) (fun i=>i≤q.recent.length∧a0q i (a9u q.recent)=true) (fun i=>q.recent.length - i) 0 (Le.mk _ _ ?_ ?_) ?_ ?_
     · simp [upd,num]
     · simp
     · simp [a1l]
     · rintro i ⟨hi2,hall2⟩
       simp [num]
       refine f7 (fun h1=>?_) (fun h1=>?_)
       · have H0:=b1j (q:=q) h1
         have hsu:=a08 (a9u q.recent) i
         rw [hall2,Bool.true_and] at hsu
         rw [c0y h1] at H0 hsu
         obtain ⟨r,hr⟩:∃ r,q.recent[i]=r:=⟨_,rfl⟩
         rw [hr] at H0 hsu
         have hR:=U4 .i64 r.length 1 8000
         have hq:(1≤r.length∧r.length≤8000)↔((1:Int)≤r.length∧(r.length:Int)≤8000):=by omega
         rw [decide_eq_decide.2 hq] at H0 hsu
         have hH:=c2w (q.recent.take i) r (by simp;omega)
         have wi:IntKind.i64.wrap ((i:Int)+1)=((i+1:Nat):Int):=by rw [wrap_i64 (by omega) (by omega)];omega
         have hile:i≤q.recent.length:=by omega
         simp [num,h1,hr,tx,b8]
         refine l6 rfl rfl (.inl rfl) hR ?_
         cases hk:decide ((1:Int)≤r.length∧(r.length:Int)≤8000) with
         | false=>simp [H0 (by rw [hk];rfl)]
         | true=>
          rw [hk,Bool.true_and] at H0 hsu
          simp [num,h1,hr,tx,hile,← List.map_take]
          refine l6 rfl rfl (.inl rfl) hH ?_
          by_cases hm:r∈q.recent.take i
          · simp [hm,H0 (by rw [decide_eq_false (fun h=>h hm)])]
          · simp [hm]
            refine LoopNext.mk (i+1) ⟨by omega,by rw [hsu,decide_eq_true hm]⟩ (by omega) (Le.mk _ _ ?_ ?_)
            · simp [num,wi]
            · simp [tx]
       · have e:i=q.recent.length:=by omega
         subst e
         simp [hfin hall hall2]
def U6 (p:LPipe):MObj:=.box [.val (.list 6 (p.channels.map j6)),.val (tx p.policy.reportTo),.val (.list 1 (p.policy.uris.map tx)),.val (.list 2 (p.policy.rules.map l7)),.val (num p.now),.val (num p.next),.val (.list 3 (p.log.map G5)),.val (.list 7 (p.wires.map I0))]
def c23 (c:LChannel):MObj:=.box [.val (tx c.group.name),.val (num c.group.age),.val (.list 3 (c.group.targets.map f9)),.val (.list 6 (c.peers.map A6)),.val (.list 4 (c.queue.items.map i8)),.val (.list 1 (c.queue.recent.map tx))]
theorem b98 (p:LPipe) (c:LChannel) (hb:R4 1048576 c):d8 Tryz.prog 110 [.val (L8 p),.val (j6 c)] (.ret (.val (.bool (Q1 p.next p.now c))) []) []:=by
 have hO:=c_l03OK c.group hb.1
 have hpl:c.peers.length≤1048576:=hb.2.1.1
 have htl:c.group.targets.length≤1048576:=hb.1.2.1
 have hP:=c_l07OK c.peers (by omega) (fun x hx=>by have:=hb.2.1.2 x hx;unfold a1n U9 at this;omega)
 have hQ:=c_l06OK c.queue hb.2.2
 have hql:c.queue.items.length≤1048576:=hb.2.2.1.1
 refine f8 mixed ok110 rfl (fun _=>rfl) ?_
 unfold ir110
 rw [b6]
 simp [d9,i6,j9,b9,d7,L8,j6,tx,num]
 refine b7 rfl rfl (.inl rfl) hO ?_
 cases hg:a2r c.group with
 | false=>
  have hf:Q1 p.next p.now c=false:=by unfold Q1;rw [hg];rfl
  simp [hf]
 | true=>
 simp [num]
 refine b7 rfl rfl (.inl rfl) hP ?_
 cases hp:X7 c.peers with
 | false=>
  have hf:Q1 p.next p.now c=false:=by unfold Q1;rw [hg,hp];rfl
  simp [hf]
 | true=>
 by_cases hl:c.peers.length=c.group.targets.length
 rotate_left
 · have hf:Q1 p.next p.now c=false:=by
    unfold Q1
    rw [decide_eq_false (fun h=>hl (by have:=congrArg List.length h;simpa using this))]
    simp
   have hl':¬ ((c.peers.length:Int)=c.group.targets.length):=by omega
   simp [hf,hl,hl']
 simp [num,hl]
 refine b7 rfl rfl (.inl rfl) hQ ?_
 cases hq:S7 c.queue with
 | false=>
  have hf:Q1 p.next p.now c=false:=by unfold Q1;rw [hq];simp
  simp [hf]
 | true=>
 have hch:Q1 p.next p.now c=(decide (c.peers.map (fun p=>p.target)=c.group.targets) && c.queue.items.all fun r=>decide (r.id < p.next) && decide (r.born≤p.now)):=by
  unfold Q1;rw [hg,hp,hq];simp
 rw [hch]
 simp [num]
 refine j8 (X:=Nat) (fun i=>⟨u0 [(2,.ptr 2 0),(3,.ptr 3 0),(5,.val (num i))],u5 [(2,U6 p),(3,c23 c)]⟩) (fun i=>i≤c.peers.length∧∀ k,k < i→∀ (h:k < c.peers.length) (h':k < c.group.targets.length),(c.peers[k]).target=c.group.targets[k]) (fun i=>c.peers.length - i) 0 (Le.mk _ _ ?_ ?_) ?_ ?_
 · simp [upd,num,PV.kill]
 · simp [U6,c23,tx,num,MObj.kill,PV.kill]
 · simp
 · rintro i ⟨hi,hall⟩
   simp [num,c23]
   refine f7 (fun h1=>?_) (fun h1=>?_)
   · have h1':i < c.group.targets.length:=by omega
     obtain ⟨x,hx⟩:∃ x,c.peers[i]=x:=⟨_,rfl⟩
     obtain ⟨t,ht⟩:∃ t,c.group.targets[i]=t:=⟨_,rfl⟩
     have wi:IntKind.i64.wrap ((i:Int)+1)=((i+1:Nat):Int):=by rw [wrap_i64 (by omega) (by omega)];omega
     have H0:x.target≠t→(decide (c.peers.map (fun p=>p.target)=c.group.targets) && c.queue.items.all fun r=>decide (r.id < p.next) && decide (r.born≤p.now))=false:=fun hne=>by
      rw [decide_eq_false,Bool.false_and]
      intro he
      apply hne
      have:=congrArg (fun l=>l[i]?) he
      simp [List.getElem?_eq_getElem h1,List.getElem?_eq_getElem h1',hx,ht] at this
      exact this
     by_cases hu:x.target.url=t.url
     · by_cases hp2:x.target.prio=t.prio
       · by_cases hw:x.target.weight=t.weight
         · have hxt:x.target=t:=by
            cases hxx:x.target;cases t
            rw [hxx] at hu hp2 hw
            simp only at hu hp2 hw
            subst hu;subst hp2;subst hw;rfl
           simp [num,h1,h1',hx,ht,A6,f9,tx,P4,a4y,a31,L7,hu,hp2,hw]
           refine LoopNext.mk (i+1) ⟨by omega,fun k hk h h'=>?_⟩ (by omega) (Le.mk _ _ ?_ ?_)
           · by_cases e:k=i
             · subst e;rw [hx,ht];exact hxt
             · exact hall k (by omega) h h'
           · simp [num,wi]
           · simp [c23,U6,tx,num]
         · simp [num,h1,h1',hx,ht,A6,f9,tx,P4,a4y,a31,L7,hu,hp2,hw,H0 (fun e=>hw (by rw [e]))]
       · simp [num,h1,h1',hx,ht,A6,f9,tx,P4,a4y,a31,L7,hu,hp2,H0 (fun e=>hp2 (by rw [e]))]
     · simp [num,h1,h1',hx,ht,A6,f9,tx,P4,a4y,a31,L7,hu,H0 (fun e=>hu (by rw [e]))]
   · have e:i=c.peers.length:=by omega
     subst e
     have heq:c.peers.map (fun p=>p.target)=c.group.targets:=by
      refine List.ext_getElem (by simpa using hl) fun k h h'=>?_
      simp only [List.getElem_map]
      exact hall k (by simpa using h) (by simpa using h) h'
     rw [decide_eq_true heq,Bool.true_and]
     simp [num]
     refine j8 (X:=Nat) (fun i=>⟨u0 [(2,.ptr 2 0),(3,.ptr 3 0),(6,.val (num i))],u5 [(2,U6 p),(3,c23 c)]⟩) (fun i=>i≤c.queue.items.length∧((c.queue.items.take i).all fun r=>decide (r.id < p.next) && decide (r.born≤p.now))=true) (fun i=>c.queue.items.length - i) 0 (Le.mk _ _ ?_ ?_) ?_ ?_
     · simp [upd,num,PV.kill]
     · simp [U6,c23,tx,num,MObj.kill,PV.kill]
     · simp
     · rintro i ⟨hi2,hall2⟩
       simp [num,c23]
       refine f7 (fun h2=>?_) (fun h2=>?_)
       · have hst:((c.queue.items.take (i+1)).all fun r=>decide (r.id < p.next) && decide (r.born≤p.now))=_:=S4 _ _ _ h2
         rw [hall2,Bool.true_and] at hst
         obtain ⟨r,hr⟩:∃ r,c.queue.items[i]=r:=⟨_,rfl⟩
         rw [hr] at hst
         have wi:IntKind.i64.wrap ((i:Int)+1)=((i+1:Nat):Int):=by rw [wrap_i64 (by omega) (by omega)];omega
         have H0:(decide (r.id < p.next) && decide (r.born≤p.now))=false→(c.queue.items.all fun r=>decide (r.id < p.next) && decide (r.born≤p.now))=false:=fun h=>by
          rw [List.all_eq_false]
          exact ⟨r,by rw [← hr];exact List.getElem_mem h2,by rw [h];simp⟩
         by_cases hA:r.id < p.next
         · have hA':¬ p.next≤r.id:=by omega
           by_cases hB:r.born≤p.now
           · have hB':¬ p.now < r.born:=by omega
             simp [num,h2,hr,i8,tx,U6,PV.kill,MObj.kill,hA',hB']
             refine LoopNext.mk (i+1) ⟨by omega,by rw [hst,decide_eq_true hA,decide_eq_true hB];rfl⟩ (by omega) (Le.mk _ _ ?_ ?_)
             · simp [num,wi,PV.kill]
             · simp [c23,U6,MObj.kill,PV.kill,tx,num]
           · have hB':p.now < r.born:=by omega
             simp [num,h2,hr,i8,tx,U6,PV.kill,MObj.kill,hA',hB',H0 (by rw [decide_eq_false hB,Bool.and_false])]
         · have hA':p.next≤r.id:=by omega
           simp [num,h2,hr,i8,tx,U6,PV.kill,MObj.kill,hA',H0 (by rw [decide_eq_false hA,Bool.false_and])]
       · have e:i=c.queue.items.length:=by omega
         subst e
         rw [List.take_length] at hall2
         simp [hall2]
end Go.Proofs
end
section
namespace Go.Proofs
open Go.PW Go.KP
attribute [local simp] RV.cells RV.one PV.cells PV.solid PV.one G6 i7 M3 L4 RV.ofCells elems PV.killL
variable [GF]
def b65 (w:LWire):MObj:=.box [.val (num w.at_),.val (num w.status),.val (tx w.group),.val (tx w.url),.val (.list 1 (w.ids.map num)),.val (tx w.body),.val (.bool w.lost)]
theorem b9l (p:LPipe) (w:LWire) (b1 b2 b3 b5:Bool) (hn:1≤p.next∧p.next≤1000000) (hil:w.ids.length≤1048576) (h1:d8 Tryz.prog 108 [.val (.int .i64 w.at_),.val (.int .i64 0),.val (.int .i64 p.now)] (.ret (.val (.bool b1)) []) [])
 (h2:d8 Tryz.prog 108 [.val (.int .i64 w.status),.val (.int .i64 100),.val (.int .i64 599)] (.ret (.val (.bool b2)) []) []) (h3:d8 Tryz.prog 173 [.val (tx w.group)] (.ret (.val (.bool b3)) []) [])
 (h5:d8 Tryz.prog 108 [.val (.int .i64 w.ids.length),.val (.int .i64 1),.val (.int .i64 3)] (.ret (.val (.bool b5)) []) []) :
 d8 Tryz.prog 111 [.val (L8 p),.val (I0 w)] (.ret (.val (.bool (b1 && b2 && b3 && decide (w.url.length≤100) && b5 && decide (w.body.length≤65536) && a0q w.ids.length (a8i p.next w.ids)))) []) []:=by
 refine f8 mixed ok111 rfl (fun _=>rfl) ?_
 unfold ir111
 rw [b6]
 simp [d9,i6,j9,b9,d7,L8,I0,tx,num]
 refine b7 rfl rfl (.inl rfl) h1 ?_
 cases b1 with
 | false=>simp
 | true=>
 simp [num]
 refine b7 rfl rfl (.inl rfl) h2 ?_
 cases b2 with
 | false=>simp
 | true=>
 simp [num]
 refine b7 rfl rfl (.inl rfl) h3 ?_
 cases b3 with
 | false=>simp
 | true=>
 by_cases hu:w.url.length≤100
 rotate_left
 · have hu':(100:Int) < w.url.length:=by omega
   simp [num,b8,hu',hu]
 have hu':¬ (100:Int) < w.url.length:=by omega
 simp [num,b8,hu',hu]
 refine b7 rfl rfl (.inl rfl) h5 ?_
 cases b5 with
 | false=>simp
 | true=>
 by_cases hy:w.body.length≤65536
 rotate_left
 · have hy':(65536:Int) < w.body.length:=by omega
   simp [num,b8,hy',hy]
 have hy':¬ (65536:Int) < w.body.length:=by omega
 simp [num,b8,hy',hy]
 have wn:IntKind.i64.wrap (p.next - 1)=p.next - 1:=wrap_i64 (by omega) (by omega)
 refine j8 (X:=Nat) (fun i=>⟨u0 [(2,.ptr 2 0),(3,.ptr 3 0),(5,.val (num i))],u5 [(2,U6 p),(3,b65 w)]⟩) (fun i=>i≤w.ids.length∧a0q i (a8i p.next w.ids)=true) (fun i=>w.ids.length - i) 0 (Le.mk _ _ ?_ ?_) ?_ ?_
 · simp [upd,num,PV.kill]
 · simp [U6,b65,tx,num,MObj.kill,PV.kill]
 · simp [a1l]
 · rintro i ⟨hi,hall⟩
   simp [num,b65]
   refine f7 (fun hlt=>?_) (fun hlt=>?_)
   · have H0:a8i p.next w.ids i=false→a0q w.ids.length (a8i p.next w.ids)=false:=a4u hlt
     have hsu:=a08 (a8i p.next w.ids) i
     rw [hall,Bool.true_and] at hsu
     obtain ⟨r,hr⟩:∃ r,w.ids[i]=r:=⟨_,rfl⟩
     have hR:=U4 .i64 r 1 (p.next - 1)
     have wi:IntKind.i64.wrap ((i:Int)+1)=((i+1:Nat):Int):=by rw [wrap_i64 (by omega) (by omega)];omega
     by_cases h0:i=0
     · subst h0
       rw [b8d hlt,hr] at H0 hsu
       simp [num,hlt,hr,tx,U6,wn]
       refine l6 rfl rfl (.inl rfl) hR ?_
       cases hk:decide (1≤r∧r≤p.next - 1) with
       | false=>simp [H0 hk]
       | true=>
        simp [num]
        refine LoopNext.mk 1 ⟨by omega,by rw [hsu,hk]⟩ (by omega) (Le.mk _ _ ?_ ?_)
        · simp [num,upd];decide
        · simp [tx,U6,b65,num]
     · obtain ⟨j,hij⟩:∃ j,i=j+1:=⟨i - 1,by omega⟩
       have hj:j < w.ids.length:=by omega
       obtain ⟨s,hs⟩:∃ s,w.ids[j]=s:=⟨_,rfl⟩
       have hra:a8i p.next w.ids i=(decide (1≤r∧r≤p.next - 1) && decide (s < r)):=by
        subst hij;rw [b8e hlt,hr,hs]
       rw [hra] at H0 hsu
       have wj:IntKind.i64.wrap ((i:Int) - 1)=(j:Int):=by rw [wrap_i64 (by omega) (by omega)];omega
       have hp:0 < i:=by omega
       simp [num,hlt,hr,tx,U6,wn]
       refine l6 rfl rfl (.inl rfl) hR ?_
       cases hk:decide (1≤r∧r≤p.next - 1) with
       | false=>simp [H0 (by rw [hk];rfl)]
       | true=>
        rw [hk,Bool.true_and] at H0 hsu
        by_cases hA:s < r
        · have hA':¬ r≤s:=by omega
          simp [num,hlt,hr,hs,hj,hp,wj,tx,hA']
          refine LoopNext.mk (i+1) ⟨by omega,by rw [hsu,decide_eq_true hA]⟩ (by omega) (Le.mk _ _ ?_ ?_)
          · simp [num,wi]
          · simp [tx,U6,b65,num]
        · have hA':r≤s:=by omega
          simp [num,hlt,hr,hs,hj,hp,wj,tx,hA',H0 (decide_eq_false hA)]
   · have e:i=w.ids.length:=by omega
     subst e
     simp [hall,hu,hy]
theorem c81 (p:LPipe) (w:LWire) (hn:1≤p.next∧p.next≤1000000) (hb:a0c 1048576 w):d8 Tryz.prog 111 [.val (L8 p),.val (I0 w)] (.ret (.val (.bool (Y0 p.next p.now w))) []) []:=by
 have hgl:w.group.length≤1048576:=hb.1
 have hil:w.ids.length≤1048576:=hb.2.2.1
 have q:(1≤w.ids.length∧w.ids.length≤3)↔((1:Int)≤w.ids.length∧(w.ids.length:Int)≤3):=by omega
 unfold Y0
 rw [decide_eq_decide.2 q]
 exact b9l p w _ _ _ _ hn hil (U4 .i64 w.at_ 0 p.now) (U4 .i64 w.status 100 599) (b2v w.group (by omega)) (U4 .i64 w.ids.length 1 3)
theorem c2p (p:LPipe) (i:Nat) (h:i < p.channels.length):(a1i p.channels fun c=>decide (c.group.name=(p.channels[i]).group.name))=(i:Int)↔(p.channels[i]).group.name∉(p.channels.map fun c=>c.group.name).take i:=b2h (fun c:LChannel=>c.group.name) p.channels i h
theorem c_l08OK (p:LPipe) (hb:a07 1048576 p):d8 Tryz.prog 59 [.val (L8 p)] (.ret (.val (.bool (M1 p))) []) []:=by
 have hcl:p.channels.length≤1048576:=hb.1.1
 have hP:=c_l04OK p.policy hb.2.1
 have hN:=U4 .i64 p.now 0 1000000
 have hX:=U4 .i64 p.next 1 1000000
 refine f8 mixed ok59 rfl (fun _=>rfl) ?_
 unfold ir59
 rw [b6]
 by_cases h5:p.channels.length≤5
 rotate_left
 · have h5':(5:Int) < p.channels.length:=by omega
   have hf:M1 p=false:=by unfold M1;rw [decide_eq_false h5];rfl
   simp [d9,i6,j9,b9,d7,L8,tx,num,h5',hf]
 have h5':¬ (5:Int) < p.channels.length:=by omega
 simp [d9,i6,j9,b9,d7,L8,tx,num,h5']
 refine b7 rfl rfl (.inl rfl) hP ?_
 cases hpol:Y7 p.policy with
 | false=>
  have hf:M1 p=false:=by unfold M1;rw [hpol];simp
  simp [hf]
 | true=>
 simp [num]
 refine b7 rfl rfl (.inl rfl) hN ?_
 cases hnow:decide (0≤p.now∧p.now≤1000000) with
 | false=>
  have hf:M1 p=false:=by unfold M1;rw [hnow];simp
  simp [hf]
 | true=>
 simp [num]
 refine b7 rfl rfl (.inl rfl) hX ?_
 cases hnext:decide (1≤p.next∧p.next≤1000000) with
 | false=>
  have hf:M1 p=false:=by unfold M1;rw [hnext];simp
  simp [hf]
 | true=>
 by_cases hll:p.log.length≤4096
 rotate_left
 · have hll':(4096:Int) < p.log.length:=by omega
   have hf:M1 p=false:=by unfold M1;rw [decide_eq_false hll];simp
   simp [num,hll',hf]
 have hll':¬ (4096:Int) < p.log.length:=by omega
 by_cases hwl:p.wires.length≤4096
 rotate_left
 · have hwl':(4096:Int) < p.wires.length:=by omega
   have hf:M1 p=false:=by unfold M1;rw [decide_eq_false hwl];simp
   simp [num,hll',hwl',hf]
 have hwl':¬ (4096:Int) < p.wires.length:=by omega
 have hpk:M1 p=(a0q p.channels.length (a3r p) && a0q p.log.length (a4r p.next p.now p.log) && p.wires.all (Y0 p.next p.now)):=by
  unfold M1;rw [decide_eq_true h5,hpol,hnow,hnext,decide_eq_true hll,decide_eq_true hwl];simp
 have hn2:1≤p.next∧p.next≤1000000:=of_decide_eq_true hnext
 have wn:IntKind.i64.wrap (p.next - 1)=p.next - 1:=wrap_i64 (by omega) (by omega)
 rw [hpk]
 simp [num,hll',hwl']
 refine j8 (X:=Nat) (fun i=>⟨u0 [(1,.ptr 1 0),(3,.val (num i))],u5 [(1,U6 p)]⟩) (fun i=>i≤p.channels.length∧a0q i (a3r p)=true) (fun i=>p.channels.length - i) 0 (Le.mk _ _ ?_ ?_) ?_ ?_
 · simp [upd,num,PV.kill]
 · simp [U6,tx,num,MObj.kill,PV.kill]
 · simp [a1l]
 · rintro i ⟨hi,hall⟩
   simp [num,U6]
   refine f7 (fun hlt=>?_) (fun hlt=>?_)
   · have H0:a3r p i=false→(a0q p.channels.length (a3r p) && a0q p.log.length (a4r p.next p.now p.log) && p.wires.all (Y0 p.next p.now))=false:=fun h=>by rw [a4u hlt h];rfl
     have hsu:=a08 (a3r p) i
     rw [hall,Bool.true_and] at hsu
     rw [a6u hlt] at H0 hsu
     have hnm:=c2p p i hlt
     obtain ⟨c,hc⟩:∃ c,p.channels[i]=c:=⟨_,rfl⟩
     have hbc:R4 1048576 c:=by rw [← hc];exact hb.1.2 _ (List.getElem_mem hlt)
     rw [hc] at H0 hsu hnm
     have hA:=c_l08At p.channels c.group.name (by omega)
     have hC:=b98 p c hbc
     have wi:IntKind.i64.wrap ((i:Int)+1)=((i+1:Nat):Int):=by rw [wrap_i64 (by omega) (by omega)];omega
     simp [num,hlt,hc,j6,tx]
     refine l6 rfl rfl (.inl rfl) hA ?_
     by_cases hu:c.group.name∈(p.channels.map fun c=>c.group.name).take i
     · have hne:¬ (a1i p.channels fun x=>decide (x.group.name=c.group.name))=(i:Int):=fun h=>hnm.1 h hu
       simp [num,hne,H0 (by rw [decide_eq_false (fun h=>h hu),Bool.false_and])]
     · have heq:=hnm.2 hu
       rw [decide_eq_true hu,Bool.true_and] at H0 hsu
       simp [num,heq,hlt,hc,j6,tx]
       refine l6 rfl rfl (.inl rfl) hC ?_
       cases hk:Q1 p.next p.now c with
       | false=>simp [H0 hk]
       | true=>
        simp
        refine LoopNext.mk (i+1) ⟨by omega,by rw [hsu,hk]⟩ (by omega) (Le.mk _ _ ?_ ?_)
        · simp [num,wi]
        · simp [tx,U6,num]
   · have e:i=p.channels.length:=by omega
     subst e
     rw [hall,Bool.true_and]
     simp [num]
     refine j8 (X:=Nat) (fun i=>⟨u0 [(1,.ptr 1 0),(4,.val (num i))],u5 [(1,U6 p)]⟩) (fun i=>i≤p.log.length∧a0q i (a4r p.next p.now p.log)=true) (fun i=>p.log.length - i) 0 (Le.mk _ _ ?_ ?_) ?_ ?_
     · simp [upd,num,PV.kill]
     · simp [U6,tx,num,MObj.kill,PV.kill]
     · simp [a1l]
     · rintro i ⟨hi2,hall2⟩
       simp [num,U6]
       refine f7 (fun hlt=>?_) (fun hlt=>?_)
       · have H0:a4r p.next p.now p.log i=false→(a0q p.log.length (a4r p.next p.now p.log) && p.wires.all (Y0 p.next p.now))=false:=fun h=>by rw [a4u hlt h];rfl
         have hsu:=a08 (a4r p.next p.now p.log) i
         have hlo:=b1s (by omega) hall2
         rw [hall2,Bool.true_and] at hsu
         rw [b6f hlt] at H0 hsu
         obtain ⟨x,hx⟩:∃ x,p.log[i]=x:=⟨_,rfl⟩
         rw [hx] at H0 hsu
         have hK:=U4 .i64 x.kind 1 7
         have hI:=U4 .i64 x.id 1 (p.next - 1)
         have hT:=U4 .i64 x.at_ 0 p.now
         have wi:IntKind.i64.wrap ((i:Int)+1)=((i+1:Nat):Int):=by rw [wrap_i64 (by omega) (by omega)];omega
         simp [num,hlt,hx,G5,tx,PV.kill,MObj.kill]
         refine l6 rfl rfl (.inl rfl) hK ?_
         cases hk:decide (1≤x.kind∧x.kind≤7) with
         | false=>simp [H0 (by rw [hk];rfl)]
         | true=>
         rw [hk,Bool.true_and] at H0 hsu
         simp [num,wn,PV.kill]
         refine l6 rfl rfl (.inl rfl) hI ?_
         cases hid:decide (1≤x.id∧x.id≤p.next - 1) with
         | false=>simp [H0 (by rw [hid];rfl)]
         | true=>
         rw [hid,Bool.true_and] at H0 hsu
         simp [num,wn,PV.kill]
         refine l6 rfl rfl (.inl rfl) hT ?_
         cases hat:decide (0≤x.at_∧x.at_≤p.now) with
         | false=>simp [H0 (decide_eq_false (fun h=>(of_decide_eq_false hat) ⟨by omega,h.2⟩))]
         | true=>
         have hat2:=of_decide_eq_true hat
         by_cases h0:i=0
         · subst h0
           have hl0:a93 p.log 0=0:=rfl
           rw [hl0] at hsu
           simp [num]
           refine LoopNext.mk 1 ⟨by omega,by rw [hsu,hat]⟩ (by omega) (Le.mk _ _ ?_ ?_)
           · simp [num,upd,PV.kill];decide
           · simp [tx,U6,num,PV.kill,MObj.kill]
         · obtain ⟨j,hij⟩:∃ j,i=j+1:=⟨i - 1,by omega⟩
           have hj:j < p.log.length:=by omega
           obtain ⟨y,hy⟩:∃ y,p.log[j]=y:=⟨_,rfl⟩
           have hly:a93 p.log i=y.at_:=by subst hij;rw [b0p hj,hy]
           rw [hly] at H0 hsu
           have wj:IntKind.i64.wrap ((i:Int) - 1)=(j:Int):=by rw [wrap_i64 (by omega) (by omega)];omega
           have hp:0 < i:=by omega
           by_cases hA:x.at_ < y.at_
           · simp [num,hlt,hx,hy,hj,hp,wj,G5,tx,PV.kill,MObj.kill,hA,H0 (decide_eq_false (fun h=>by omega))]
           · simp [num,hlt,hx,hy,hj,hp,wj,G5,tx,PV.kill,MObj.kill,hA]
             refine LoopNext.mk (i+1) ⟨by omega,by rw [hsu];exact decide_eq_true ⟨by omega,hat2.2⟩⟩ (by omega) (Le.mk _ _ ?_ ?_)
             · simp [num,wi,PV.kill]
             · simp [tx,U6,num,PV.kill,MObj.kill]
       · have e:i=p.log.length:=by omega
         subst e
         rw [hall2,Bool.true_and]
         simp [num]
         refine j8 (X:=Nat) (fun i=>⟨u0 [(1,.ptr 1 0),(6,.val (num i))],u5 [(1,U6 p)]⟩) (fun i=>i≤p.wires.length∧(p.wires.take i).all (Y0 p.next p.now)=true) (fun i=>p.wires.length - i) 0 (Le.mk _ _ ?_ ?_) ?_ ?_
         · simp [upd,num,PV.kill]
         · simp [U6,tx,num,MObj.kill,PV.kill]
         · simp
         · rintro i ⟨hi3,hall3⟩
           simp [num,U6]
           refine f7 (fun hlt3=>?_) (fun hlt3=>?_)
           · have hst:=S4 p.wires (Y0 p.next p.now) i hlt3
             rw [hall3,Bool.true_and] at hst
             obtain ⟨x,hx⟩:∃ x,p.wires[i]=x:=⟨_,rfl⟩
             have hbw:a0c 1048576 x:=by rw [← hx];exact hb.2.2.2.2 _ (List.getElem_mem hlt3)
             rw [hx] at hst
             have hW:=c81 p x hn2 hbw
             have wi:IntKind.i64.wrap ((i:Int)+1)=((i+1:Nat):Int):=by rw [wrap_i64 (by omega) (by omega)];omega
             have H0:Y0 p.next p.now x=false→p.wires.all (Y0 p.next p.now)=false:=fun h=>List.all_eq_false.2 ⟨x,by rw [← hx];exact List.getElem_mem hlt3,by simp [h]⟩
             simp [num,hlt3,hx,I0,tx]
             refine l6 rfl rfl (.inl rfl) hW ?_
             cases hk:Y0 p.next p.now x with
             | false=>simp [H0 hk]
             | true=>
              simp
              refine LoopNext.mk (i+1) ⟨by omega,by rw [hst,hk]⟩ (by omega) (Le.mk _ _ ?_ ?_)
              · simp [num,wi]
              · simp [tx,U6,num]
           · have e:i=p.wires.length:=by omega
             subst e
             rw [List.take_length] at hall3
             simp [hall3]
end Go.Proofs
end
