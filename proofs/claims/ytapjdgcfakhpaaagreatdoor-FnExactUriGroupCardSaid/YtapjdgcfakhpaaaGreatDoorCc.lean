/- Cc: merged out of KSl, KSp, KSt. -/
import Derived.Test.YtapjdgcfakhpaaaGreatDoorCa
import Derived.Test.YtapjdgcfakhpaaaGreatDoorAc
import Derived.Test.YtapjdgcfakhpaaaGreatDoorBa
set_option linter.unusedSectionVars false
set_option linter.unusedSimpArgs false
set_option linter.unusedVariables false
set_option maxRecDepth 100000
section
namespace Go.Proofs
open Go.PW Go.KP
attribute [local simp] RV.cells RV.one PV.cells PV.solid PV.one w5 i6 n7 n6 RV.ofCells elems PV.killL
variable [GF]
theorem a8p (l:List Tx) (left:Int) (h0:0≤left) (h1:left≤1048576) (hx:bdS 9223372036854775807 (fun t=>t.length≤9223372036854775807) l):f7 Tryz.prog 66 [.val (.list 1 (l.map tx)),.val (num left)] (.ret (.val (num (cut left (zS List.length l)))) []) []:=by
 refine f9 mixed ok66 rfl (fun _=>rfl) ?_
 unfold ir66
 rw [b9]
 have hl:l.length≤9223372036854775807:=hx.1
 have hw:IntKind.i64.wrap (left - (l.length:Int))=left - l.length:=wrap_i64 (by omega) (by omega)
 have hzs:zS List.length l=l.length+S1 List.length l:=rfl
 by_cases h:left - (l.length:Int) < 0
 · rw [U5 (by omega)]
   simp [d9,j4,l0,b7,d8,num,hw,h]
 · simp [d9,j4,l0,b7,d8,num,hw,h]
   refine l4 (X:=Nat) (fun i=>⟨u0 [(0,.val (.list 1 (l.map tx))),(1,.val (num (left - l.length - (S1 List.length (l.take i):Nat)))),(5,.val (num i))],u4 []⟩) (fun i=>i≤l.length∧0≤left - l.length - (S1 List.length (l.take i):Nat)) (fun i=>l.length - i) 0 (Le.mk _ _ ?_ ?_) ?_ ?_
   · simp [upd,num,S1,PV.kill]
   · simp
   · simp [S1];omega
   · rintro i ⟨hi,hg⟩
     simp [num]
     refine i7 (fun h2=>?_) (fun h2=>?_)
     · have e1:(l.map tx)[i]?.getD .nilptr=tx l[i]:=by simp [List.getElem?_eq_getElem h2]
       have hsn:S1 List.length (l.take (i+1))=S1 List.length (l.take i)+List.length l[i]:=a7t _ h2
       have hle:=b25 (f:=List.length) l (i+1)
       have hxi:l[i].length≤9223372036854775807:=hx.2 _ (List.getElem_mem h2)
       have hw2:IntKind.i64.wrap (left - (l.length:Int) - (S1 List.length (l.take i):Int) - (l[i].length:Int))=left - (l.length:Int) - (S1 List.length (l.take i):Int) - (l[i].length:Int):=wrap_i64 (by omega) (by omega)
       by_cases h3:left - (l.length:Int) - (S1 List.length (l.take i):Int) - (l[i].length:Int) < 0
       · rw [U5 (by omega)]
         simp [num,h2,e1,tx,b6,hw2,h3]
       · simp [num,h2,e1,tx,b6,hw2,h3]
         refine LoopNext.mk (i+1) ⟨by omega,by omega⟩ (by omega) (Le.mk _ _ ?_ ?_)
         · simp [num]
           exact ⟨by omega,wrap_i64 (by omega) (by omega)⟩
         · simp
     · have e1:i=l.length:=by omega
       subst e1
       rw [List.take_length] at *
       rw [a09 (by omega)]
       simp [num]
       omega
theorem a8q (l:List Tx) (hx:bdS 1048576 (fun t=>t.length≤1048576) l):f7 Tryz.prog 31 [.val (.list 1 (l.map tx)),.val (.list 1 (l.map tx))] (.ret (.val (.bool true)) []) []:=by
 refine f9 mixed ok31 rfl (fun _=>rfl) ?_
 unfold ir31
 rw [b9]
 have hl:l.length≤1048576:=hx.1
 simp [d9,j4,l0,b7,d8,num]
 refine l4 (X:=Nat) (fun i=>⟨u0 [(0,.val (.list 1 (l.map tx))),(1,.val (.list 1 (l.map tx))),(5,.val (num i))],u4 []⟩) (fun i=>i≤l.length) (fun i=>l.length - i) 0 (Le.mk _ _ ?_ ?_) ?_ ?_
 · simp [upd,num,PV.kill]
 · simp
 · simp
 · intro i hi
   simp [num]
   refine i7 (fun h1=>?_) (fun h1=>?_)
   · have e1:(l.map tx)[i]?.getD .nilptr=tx l[i]:=by simp [List.getElem?_eq_getElem h1]
     simp [num,h1,e1,tx]
     refine LoopNext.mk (i+1) (by omega) (by omega) (Le.mk _ _ ?_ ?_)
     · simp [num];exact wrap_i64 (by omega) (by omega)
     · simp
   · simp
theorem c2p (x:LRule) (left:Int) (h0:0≤left) (h1:left≤1048576) (hx:R6 9223372036854775807 x):f7 Tryz.prog 123 [.val (j5 x),.val (num left)] (.ret (.val (num (cut left (T2 x)))) []) []:=by
 refine f9 mixed ok123 rfl (fun _=>rfl) ?_
 unfold ir123
 rw [b9]
 unfold R6 at hx
 obtain ⟨b0,b1⟩:=hx
 unfold T2
 have w0:IntKind.i64.wrap (left - ((x.name.length:Nat):Int))=left - ((x.name.length:Nat):Int):=wrap_i64 (by omega) (by omega)
 by_cases k0:left - ((x.name.length:Nat):Int) < 0
 · rw [U5 (by omega)]
   simp [d9,j4,l0,b7,d8,j5,tx,num,b6,i6,w0,k0]
 · simp [d9,j4,l0,b7,d8,j5,tx,num,b6,i6,w0,k0]
   refine d7 rfl rfl (.inl rfl) (a8p x.words (left - (x.name.length:Nat)) (by omega) (by omega) b1) ?_
   by_cases k1:(left - (x.name.length:Nat)) - ((zS List.length x.words:Nat):Int) < 0
   · first | rw [U5 (by omega),U5 (by omega)] | rw [U5 (by omega)]
     simp [j5,tx,num,b6,i6]
   · first | rw [a09 (by omega),a09 (by omega)] | rw [a09 (by omega)]
     simp [j5,tx,num,b6,i6,k0,k1]
     try omega
theorem c2q (x:LRule) (hx:R6 1048576 x):f7 Tryz.prog 136 [.val (j5 x),.val (j5 x)] (.ret (.val (.bool true)) []) []:=by
 refine f9 mixed ok136 rfl (fun _=>rfl) ?_
 unfold ir136
 rw [b9]
 unfold R6 at hx
 obtain ⟨b0,b1⟩:=hx
 simp [d9,j4,l0,b7,d8,j5,tx,num,i6]
 refine d7 rfl rfl (.inl rfl) (a8q x.words b1) ?_
 simp [j5,tx,num,i6]
theorem c0n (l:List LRule) (left:Int) (h0:0≤left) (h1:left≤1048576) (hx:bdS 9223372036854775807 (R6 9223372036854775807) l):f7 Tryz.prog 67 [.val (.list 2 (l.map j5)),.val (num left)] (.ret (.val (num (cut left (zS T2 l)))) []) []:=by
 refine f9 mixed ok67 rfl (fun _=>rfl) ?_
 unfold ir67
 rw [b9]
 have hl:l.length≤9223372036854775807:=hx.1
 have hw:IntKind.i64.wrap (left - (l.length:Int))=left - l.length:=wrap_i64 (by omega) (by omega)
 have hzs:zS T2 l=l.length+S1 T2 l:=rfl
 by_cases h:left - (l.length:Int) < 0
 · rw [U5 (by omega)]
   simp [d9,j4,l0,b7,d8,num,hw,h]
 · simp [d9,j4,l0,b7,d8,num,hw,h]
   refine l4 (X:=Nat) (fun i=>⟨u0 [(0,.val (.list 2 (l.map j5))),(1,.val (num (left - l.length - (S1 T2 (l.take i):Nat)))),(5,.val (num i))],u4 []⟩) (fun i=>i≤l.length∧0≤left - l.length - (S1 T2 (l.take i):Nat)) (fun i=>l.length - i) 0 (Le.mk _ _ ?_ ?_) ?_ ?_
   · simp [upd,num,S1,PV.kill]
   · simp
   · simp [S1];omega
   · rintro i ⟨hi,hg⟩
     simp [num]
     refine i7 (fun h2=>?_) (fun h2=>?_)
     · have e1:(l.map j5)[i]?.getD .nilptr=j5 l[i]:=by simp [List.getElem?_eq_getElem h2]
       have hsn:S1 T2 (l.take (i+1))=S1 T2 (l.take i)+T2 l[i]:=a7t _ h2
       have hle:=b25 (f:=T2) l (i+1)
       simp [num,h2,e1,j5,tx]
       refine d7 rfl rfl (.inl rfl) (c2p l[i] (left - l.length - (S1 T2 (l.take i):Nat)) (by omega) (by omega) (hx.2 _ (List.getElem_mem h2))) ?_
       by_cases h3:left - (l.length:Int) - (S1 T2 (l.take i):Int) - (T2 l[i]:Int) < 0
       · have c1:cut (left - l.length - (S1 T2 (l.take i):Nat)) (T2 l[i])=-1:=U5 (by omega)
         have c2:cut left (zS T2 l)=-1:=U5 (by omega)
         rw [c1,c2]
         simp [num]
       · have c1:cut (left - l.length - (S1 T2 (l.take i):Nat)) (T2 l[i])=left - l.length - (S1 T2 (l.take i):Nat) - (T2 l[i]:Nat):=a09 (by omega)
         rw [c1]
         simp [num,h3]
         refine LoopNext.mk (i+1) ⟨by omega,by omega⟩ (by omega) (Le.mk _ _ ?_ ?_)
         · simp [num]
           exact ⟨by omega,wrap_i64 (by omega) (by omega)⟩
         · simp
     · have e1:i=l.length:=by omega
       subst e1
       rw [List.take_length] at *
       rw [a09 (by omega)]
       simp [num]
       omega
theorem c0o (l:List LRule) (hx:bdS 1048576 (R6 1048576) l):f7 Tryz.prog 77 [.val (.list 2 (l.map j5)),.val (.list 2 (l.map j5))] (.ret (.val (.bool true)) []) []:=by
 refine f9 mixed ok77 rfl (fun _=>rfl) ?_
 unfold ir77
 rw [b9]
 have hl:l.length≤1048576:=hx.1
 simp [d9,j4,l0,b7,d8,num]
 refine l4 (X:=Nat) (fun i=>⟨u0 [(0,.val (.list 2 (l.map j5))),(1,.val (.list 2 (l.map j5))),(5,.val (num i))],u4 []⟩) (fun i=>i≤l.length) (fun i=>l.length - i) 0 (Le.mk _ _ ?_ ?_) ?_ ?_
 · simp [upd,num,PV.kill]
 · simp
 · simp
 · intro i hi
   simp [num]
   refine i7 (fun h1=>?_) (fun h1=>?_)
   · have e1:(l.map j5)[i]?.getD .nilptr=j5 l[i]:=by simp [List.getElem?_eq_getElem h1]
     simp [num,h1,e1,j5,tx]
     refine d7 rfl rfl (.inl rfl) (c2q l[i] (hx.2 _ (List.getElem_mem h1))) ?_
     simp
     refine LoopNext.mk (i+1) (by omega) (by omega) (Le.mk _ _ ?_ ?_)
     · simp [num];exact wrap_i64 (by omega) (by omega)
     · simp
   · simp
theorem b7x (x:LPolicy) (left:Int) (h0:0≤left) (h1:left≤1048576) (hx:M4 9223372036854775807 x):f7 Tryz.prog 20 [.val (j8 x),.val (num left)] (.ret (.val (num (cut left (a47 x)))) []) []:=by
 refine f9 mixed ok20 rfl (fun _=>rfl) ?_
 unfold ir20
 rw [b9]
 unfold M4 at hx
 obtain ⟨b0,b1,b2⟩:=hx
 unfold a47
 have w0:IntKind.i64.wrap (left - ((x.reportTo.length:Nat):Int))=left - ((x.reportTo.length:Nat):Int):=wrap_i64 (by omega) (by omega)
 by_cases k0:left - ((x.reportTo.length:Nat):Int) < 0
 · rw [U5 (by omega)]
   simp [d9,j4,l0,b7,d8,j8,tx,num,b6,i6,w0,k0]
 · simp [d9,j4,l0,b7,d8,j8,tx,num,b6,i6,w0,k0]
   refine d7 rfl rfl (.inl rfl) (a8p x.uris (left - (x.reportTo.length:Nat)) (by omega) (by omega) b1) ?_
   by_cases k1:(left - (x.reportTo.length:Nat)) - ((zS List.length x.uris:Nat):Int) < 0
   · first | rw [U5 (by omega),U5 (by omega)] | rw [U5 (by omega)]
     simp [j8,tx,num,b6,i6]
   · rw [a09 (show ¬ (left - (x.reportTo.length:Nat)) - ((zS List.length x.uris:Nat):Int) < 0 by omega)]
     simp [j8,tx,num,b6,i6,k0,k1]
     refine d7 rfl rfl (.inl rfl) (c0n x.rules (left - (x.reportTo.length:Nat) - (zS List.length x.uris:Nat)) (by omega) (by omega) b2) ?_
     by_cases k2:(left - (x.reportTo.length:Nat) - (zS List.length x.uris:Nat)) - ((zS T2 x.rules:Nat):Int) < 0
     · first | rw [U5 (by omega),U5 (by omega)] | rw [U5 (by omega)]
       simp [j8,tx,num,b6,i6]
     · first | rw [a09 (by omega),a09 (by omega)] | rw [a09 (by omega)]
       simp [j8,tx,num,b6,i6,k0,k1,k2]
       try omega
theorem b7z (x:LPolicy) (hx:M4 1048576 x):f7 Tryz.prog 25 [.val (j8 x),.val (j8 x)] (.ret (.val (.bool true)) []) []:=by
 refine f9 mixed ok25 rfl (fun _=>rfl) ?_
 unfold ir25
 rw [b9]
 unfold M4 at hx
 obtain ⟨b0,b1,b2⟩:=hx
 simp [d9,j4,l0,b7,d8,j8,tx,num,i6]
 refine d7 rfl rfl (.inl rfl) (a8q x.uris b1) ?_
 simp [j8,tx,num,i6]
 refine d7 rfl rfl (.inl rfl) (c0o x.rules b2) ?_
 simp [j8,tx,num,i6]
end Go.Proofs
end
section
namespace Go.Proofs
open Go.PW Go.KP
attribute [local simp] RV.cells RV.one PV.cells PV.solid PV.one w5 i6 n7 n6 RV.ofCells elems PV.killL
variable [GF]
theorem b7y (x:LTarget) (hx:a42 1048576 x):f7 Tryz.prog 135 [.val (l2 x),.val (l2 x)] (.ret (.val (.bool true)) []) []:=by
 refine f9 mixed ok135 rfl (fun _=>rfl) ?_
 unfold ir135
 rw [b9]
 unfold a42 at hx
 have b0:=hx
 simp [d9,j4,l0,b7,d8,l2,tx,num,i6]
theorem b5l (l:List LTarget) (hx:bdS 1048576 (a42 1048576) l):f7 Tryz.prog 76 [.val (.list 3 (l.map l2)),.val (.list 3 (l.map l2))] (.ret (.val (.bool true)) []) []:=by
 refine f9 mixed ok76 rfl (fun _=>rfl) ?_
 unfold ir76
 rw [b9]
 have hl:l.length≤1048576:=hx.1
 simp [d9,j4,l0,b7,d8,num]
 refine l4 (X:=Nat) (fun i=>⟨u0 [(0,.val (.list 3 (l.map l2))),(1,.val (.list 3 (l.map l2))),(5,.val (num i))],u4 []⟩) (fun i=>i≤l.length) (fun i=>l.length - i) 0 (Le.mk _ _ ?_ ?_) ?_ ?_
 · simp [upd,num,PV.kill]
 · simp
 · simp
 · intro i hi
   simp [num]
   refine i7 (fun h1=>?_) (fun h1=>?_)
   · have e1:(l.map l2)[i]?.getD .nilptr=l2 l[i]:=by simp [List.getElem?_eq_getElem h1]
     simp [num,h1,e1,l2,tx]
     refine d7 rfl rfl (.inl rfl) (b7y l[i] (hx.2 _ (List.getElem_mem h1))) ?_
     simp
     refine LoopNext.mk (i+1) (by omega) (by omega) (Le.mk _ _ ?_ ?_)
     · simp [num];exact wrap_i64 (by omega) (by omega)
     · simp
   · simp
theorem c0p (x:LGroup) (hx:b3u 1048576 x):f7 Tryz.prog 24 [.val (Z5 x),.val (Z5 x)] (.ret (.val (.bool true)) []) []:=by
 refine f9 mixed ok24 rfl (fun _=>rfl) ?_
 unfold ir24
 rw [b9]
 unfold b3u at hx
 obtain ⟨b0,b1⟩:=hx
 simp [d9,j4,l0,b7,d8,Z5,tx,num,i6]
 refine d7 rfl rfl (.inl rfl) (b5l x.targets b1) ?_
 simp [Z5,tx,num,i6]
end Go.Proofs
end
section
namespace Go.Proofs
open Go.PW Go.KP
attribute [local simp] RV.cells RV.one PV.cells PV.solid PV.one w5 i6 n7 n6 RV.ofCells elems PV.killL
variable [GF]
end Go.Proofs
end
