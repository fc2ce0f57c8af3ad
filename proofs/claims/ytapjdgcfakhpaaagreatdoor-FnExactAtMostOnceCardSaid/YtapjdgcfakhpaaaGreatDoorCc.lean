/- Cc: merged out of KSl, KSp, KSt, KSu, KSx. -/
import Derived.Test.YtapjdgcfakhpaaaGreatDoorCa
import Derived.Test.YtapjdgcfakhpaaaGreatDoorAc
import Derived.Test.YtapjdgcfakhpaaaGreatDoorBa
import Derived.Test.YtapjdgcfakhpaaaGreatDoorCb
set_option linter.unusedSectionVars false
set_option linter.unusedSimpArgs false
set_option linter.unusedVariables false
set_option maxRecDepth 100000
section
namespace Go.Proofs
open Go.PW Go.KP
attribute [local simp] RV.cells RV.one PV.cells PV.solid PV.one x6 j2 J4 I7 RV.ofCells elems PV.killL
variable [GF]
theorem a6n (l:List Tx) (left:Int) (h0:0≤left) (h1:left≤1048576) (hx:bdS 9223372036854775807 (fun t=>t.length≤9223372036854775807) l):f8 Tryz.prog 66 [.val (.list 1 (l.map tx)),.val (num left)] (.ret (.val (num (cut left (zS List.length l)))) []) []:=by
 refine i7 mixed ok66 rfl (fun _=>rfl) ?_
 unfold ir66
 rw [b7]
 have hl:l.length≤9223372036854775807:=hx.1
 have hw:IntKind.i64.wrap (left - (l.length:Int))=left - l.length:=wrap_i64 (by omega) (by omega)
 have hzs:zS List.length l=l.length+O2 List.length l:=rfl
 by_cases h:left - (l.length:Int) < 0
 · rw [l7 (by omega)]
   simp [i6,j3,j9,b8,f6,num,hw,h]
 · simp [i6,j3,j9,b8,f6,num,hw,h]
   refine l3 (X:=Nat) (fun i=>⟨x5 [(0,.val (.list 1 (l.map tx))),(1,.val (num (left - l.length - (O2 List.length (l.take i):Nat)))),(5,.val (num i))],x4 []⟩) (fun i=>i≤l.length∧0≤left - l.length - (O2 List.length (l.take i):Nat)) (fun i=>l.length - i) 0 (Le.mk _ _ ?_ ?_) ?_ ?_
   · simp [upd,num,O2,PV.kill]
   · simp
   · simp [O2];omega
   · rintro i ⟨hi,hg⟩
     simp [num]
     refine j1 (fun h2=>?_) (fun h2=>?_)
     · have e1:(l.map tx)[i]?.getD .nilptr=tx l[i]:=by simp [List.getElem?_eq_getElem h2]
       have hsn:O2 List.length (l.take (i+1))=O2 List.length (l.take i)+List.length l[i]:=a29 _ h2
       have hle:=a5j (f:=List.length) l (i+1)
       have hxi:l[i].length≤9223372036854775807:=hx.2 _ (List.getElem_mem h2)
       have hw2:IntKind.i64.wrap (left - (l.length:Int) - (O2 List.length (l.take i):Int) - (l[i].length:Int))=left - (l.length:Int) - (O2 List.length (l.take i):Int) - (l[i].length:Int):=wrap_i64 (by omega) (by omega)
       by_cases h3:left - (l.length:Int) - (O2 List.length (l.take i):Int) - (l[i].length:Int) < 0
       · rw [l7 (by omega)]
         simp [num,h2,e1,tx,b9,hw2,h3]
       · simp [num,h2,e1,tx,b9,hw2,h3]
         refine LoopNext.mk (i+1) ⟨by omega,by omega⟩ (by omega) (Le.mk _ _ ?_ ?_)
         · simp [num]
           exact ⟨by omega,wrap_i64 (by omega) (by omega)⟩
         · simp
     · have e1:i=l.length:=by omega
       subst e1
       rw [List.take_length] at *
       rw [I5 (by omega)]
       simp [num]
       omega
theorem a6m (l:List Tx) (hx:bdS 1048576 (fun t=>t.length≤1048576) l):f8 Tryz.prog 70 [.val (.list 1 (l.map tx))] (.ret (.val (.list 1 (l.map tx))) []) []:=by
 refine i7 mixed ok70 rfl (fun _=>rfl) ?_
 unfold ir70
 rw [b7]
 have hl:l.length≤1048576:=hx.1
 simp [i6,j3,j9,b8,f6,num,x6]
 refine ⟨by omega,by omega,?_⟩
 refine l3 (X:=Nat) (fun i=>⟨x5 [(0,.val (.list 1 (l.map tx))),(3,.own 7),(4,.val (num i))],x4 [(7,.row 9 1 (a0u tx (.str (bs [])) l i))]⟩) (fun i=>i≤l.length) (fun i=>l.length - i) 0 (Le.mk _ _ ?_ ?_) ?_ ?_
 · simp [upd,num,PV.kill]
 · simp [upd,num,bs,a1d]
 · simp
 · intro i hi
   have hlen:=a2l tx (.str (bs [])) l i hi
   simp [num,x6]
   refine j1 (fun h1=>?_) (fun h1=>?_)
   · have e1:(l.map tx)[i]?.getD .nilptr=tx l[i]:=by simp [List.getElem?_eq_getElem h1]
     have e2:=a3v tx (.str (bs [])) l i h1
     have e3:=a2k tx (.str (bs [])) l i h1
     have e4:(a0u tx (.str (bs [])) l i)[i]'(by omega)=(.str (bs [])):=by
      have h9:=e2
      rw [List.getElem?_eq_getElem (show i < (a0u tx (.str (bs [])) l i).length by omega)] at h9
      exact h9
     simp [num,h1,e1,tx,hlen,x6]
     refine LoopNext.mk (i+1) (by omega) (by omega) (Le.mk _ _ ?_ ?_)
     · simp [num];exact wrap_i64 (by omega) (by omega)
     · rw [← e3]
       simp [num,tx,e4]
   · have e1:i=l.length:=by omega
     subst e1
     simp [num,a2m,a00,PV.pl]
theorem a6o (l:List Tx) (hx:bdS 1048576 (fun t=>t.length≤1048576) l):f8 Tryz.prog 31 [.val (.list 1 (l.map tx)),.val (.list 1 (l.map tx))] (.ret (.val (.bool true)) []) []:=by
 refine i7 mixed ok31 rfl (fun _=>rfl) ?_
 unfold ir31
 rw [b7]
 have hl:l.length≤1048576:=hx.1
 simp [i6,j3,j9,b8,f6,num]
 refine l3 (X:=Nat) (fun i=>⟨x5 [(0,.val (.list 1 (l.map tx))),(1,.val (.list 1 (l.map tx))),(5,.val (num i))],x4 []⟩) (fun i=>i≤l.length) (fun i=>l.length - i) 0 (Le.mk _ _ ?_ ?_) ?_ ?_
 · simp [upd,num,PV.kill]
 · simp
 · simp
 · intro i hi
   simp [num]
   refine j1 (fun h1=>?_) (fun h1=>?_)
   · have e1:(l.map tx)[i]?.getD .nilptr=tx l[i]:=by simp [List.getElem?_eq_getElem h1]
     simp [num,h1,e1,tx]
     refine LoopNext.mk (i+1) (by omega) (by omega) (Le.mk _ _ ?_ ?_)
     · simp [num];exact wrap_i64 (by omega) (by omega)
     · simp
   · simp
theorem c7a (x:LRule) (left:Int) (h0:0≤left) (h1:left≤1048576) (hx:a0d 9223372036854775807 x):f8 Tryz.prog 123 [.val (l4 x),.val (num left)] (.ret (.val (num (cut left (a0n x)))) []) []:=by
 refine i7 mixed ok123 rfl (fun _=>rfl) ?_
 unfold ir123
 rw [b7]
 unfold a0d at hx
 obtain ⟨b0,b1⟩:=hx
 unfold a0n
 have w0:IntKind.i64.wrap (left - ((x.name.length:Nat):Int))=left - ((x.name.length:Nat):Int):=wrap_i64 (by omega) (by omega)
 by_cases k0:left - ((x.name.length:Nat):Int) < 0
 · rw [l7 (by omega)]
   simp [i6,j3,j9,b8,f6,l4,tx,num,b9,j2,w0,k0]
 · simp [i6,j3,j9,b8,f6,l4,tx,num,b9,j2,w0,k0]
   refine b6 rfl rfl (.inl rfl) (a6n x.words (left - (x.name.length:Nat)) (by omega) (by omega) b1) ?_
   by_cases k1:(left - (x.name.length:Nat)) - ((zS List.length x.words:Nat):Int) < 0
   · first | rw [l7 (by omega),l7 (by omega)] | rw [l7 (by omega)]
     simp [l4,tx,num,b9,j2]
   · first | rw [I5 (by omega),I5 (by omega)] | rw [I5 (by omega)]
     simp [l4,tx,num,b9,j2,k0,k1]
     try omega
theorem c66 (x:LRule) (hx:a0d 1048576 x):f8 Tryz.prog 129 [.val (l4 x)] (.ret (.val (l4 x)) []) []:=by
 refine i7 mixed ok129 rfl (fun _=>rfl) ?_
 unfold ir129
 rw [b7]
 unfold a0d at hx
 obtain ⟨b0,b1⟩:=hx
 simp [i6,j3,j9,b8,f6,l4,tx,num,j2]
 refine b6 rfl rfl (.inl rfl) (a6m x.words b1) ?_
 simp [l4,tx,num,j2]
 refine (a31 (id:=2) (n:=2) (rs:=[tx x.name,.list 1 (x.words.map tx)]) ?_ ?_ rfl (by omega)).trans ?_
 · simp
 · simp [tx,num]
 · simp [l4,tx,num,j2]
theorem c7f (x:LRule) (hx:a0d 1048576 x):f8 Tryz.prog 136 [.val (l4 x),.val (l4 x)] (.ret (.val (.bool true)) []) []:=by
 refine i7 mixed ok136 rfl (fun _=>rfl) ?_
 unfold ir136
 rw [b7]
 unfold a0d at hx
 obtain ⟨b0,b1⟩:=hx
 simp [i6,j3,j9,b8,f6,l4,tx,num,j2]
 refine b6 rfl rfl (.inl rfl) (a6o x.words b1) ?_
 simp [l4,tx,num,j2]
theorem c4q (l:List LRule) (left:Int) (h0:0≤left) (h1:left≤1048576) (hx:bdS 9223372036854775807 (a0d 9223372036854775807) l):f8 Tryz.prog 67 [.val (.list 2 (l.map l4)),.val (num left)] (.ret (.val (num (cut left (zS a0n l)))) []) []:=by
 refine i7 mixed ok67 rfl (fun _=>rfl) ?_
 unfold ir67
 rw [b7]
 have hl:l.length≤9223372036854775807:=hx.1
 have hw:IntKind.i64.wrap (left - (l.length:Int))=left - l.length:=wrap_i64 (by omega) (by omega)
 have hzs:zS a0n l=l.length+O2 a0n l:=rfl
 by_cases h:left - (l.length:Int) < 0
 · rw [l7 (by omega)]
   simp [i6,j3,j9,b8,f6,num,hw,h]
 · simp [i6,j3,j9,b8,f6,num,hw,h]
   refine l3 (X:=Nat) (fun i=>⟨x5 [(0,.val (.list 2 (l.map l4))),(1,.val (num (left - l.length - (O2 a0n (l.take i):Nat)))),(5,.val (num i))],x4 []⟩) (fun i=>i≤l.length∧0≤left - l.length - (O2 a0n (l.take i):Nat)) (fun i=>l.length - i) 0 (Le.mk _ _ ?_ ?_) ?_ ?_
   · simp [upd,num,O2,PV.kill]
   · simp
   · simp [O2];omega
   · rintro i ⟨hi,hg⟩
     simp [num]
     refine j1 (fun h2=>?_) (fun h2=>?_)
     · have e1:(l.map l4)[i]?.getD .nilptr=l4 l[i]:=by simp [List.getElem?_eq_getElem h2]
       have hsn:O2 a0n (l.take (i+1))=O2 a0n (l.take i)+a0n l[i]:=a29 _ h2
       have hle:=a5j (f:=a0n) l (i+1)
       simp [num,h2,e1,l4,tx]
       refine b6 rfl rfl (.inl rfl) (c7a l[i] (left - l.length - (O2 a0n (l.take i):Nat)) (by omega) (by omega) (hx.2 _ (List.getElem_mem h2))) ?_
       by_cases h3:left - (l.length:Int) - (O2 a0n (l.take i):Int) - (a0n l[i]:Int) < 0
       · have c1:cut (left - l.length - (O2 a0n (l.take i):Nat)) (a0n l[i])=-1:=l7 (by omega)
         have c2:cut left (zS a0n l)=-1:=l7 (by omega)
         rw [c1,c2]
         simp [num]
       · have c1:cut (left - l.length - (O2 a0n (l.take i):Nat)) (a0n l[i])=left - l.length - (O2 a0n (l.take i):Nat) - (a0n l[i]:Nat):=I5 (by omega)
         rw [c1]
         simp [num,h3]
         refine LoopNext.mk (i+1) ⟨by omega,by omega⟩ (by omega) (Le.mk _ _ ?_ ?_)
         · simp [num]
           exact ⟨by omega,wrap_i64 (by omega) (by omega)⟩
         · simp
     · have e1:i=l.length:=by omega
       subst e1
       rw [List.take_length] at *
       rw [I5 (by omega)]
       simp [num]
       omega
theorem c4k (l:List LRule) (hx:bdS 1048576 (a0d 1048576) l):f8 Tryz.prog 71 [.val (.list 2 (l.map l4))] (.ret (.val (.list 2 (l.map l4))) []) []:=by
 refine i7 mixed ok71 rfl (fun _=>rfl) ?_
 unfold ir71
 rw [b7]
 have hl:l.length≤1048576:=hx.1
 simp [i6,j3,j9,b8,f6,num,x6]
 refine ⟨by omega,by omega,?_⟩
 refine l3 (X:=Nat) (fun i=>⟨x5 [(0,.val (.list 2 (l.map l4))),(3,.own 7),(4,.val (num i))],x4 [(7,.row 181 2 (a0u l4 (.agg [.str (bs []),.list 1 []]) l i))]⟩) (fun i=>i≤l.length) (fun i=>l.length - i) 0 (Le.mk _ _ ?_ ?_) ?_ ?_
 · simp [upd,num,PV.kill]
 · simp [upd,num,bs,a1d]
 · simp
 · intro i hi
   have hlen:=a2l l4 (.agg [.str (bs []),.list 1 []]) l i hi
   simp [num,x6]
   refine j1 (fun h1=>?_) (fun h1=>?_)
   · have e1:(l.map l4)[i]?.getD .nilptr=l4 l[i]:=by simp [List.getElem?_eq_getElem h1]
     have e2:=a3v l4 (.agg [.str (bs []),.list 1 []]) l i h1
     have e3:=a2k l4 (.agg [.str (bs []),.list 1 []]) l i h1
     have e4:(a0u l4 (.agg [.str (bs []),.list 1 []]) l i)[i]'(by omega)=(.agg [.str (bs []),.list 1 []]):=by
      have h9:=e2
      rw [List.getElem?_eq_getElem (show i < (a0u l4 (.agg [.str (bs []),.list 1 []]) l i).length by omega)] at h9
      exact h9
     simp [num,h1,e1,l4,tx,hlen,x6]
     refine b6 rfl rfl (.inl rfl) (c66 l[i] (hx.2 _ (List.getElem_mem h1))) ?_
     simp [num,h1,e1,e2,l4,tx,hlen,x6]
     refine LoopNext.mk (i+1) (by omega) (by omega) (Le.mk _ _ ?_ ?_)
     · simp [num];exact wrap_i64 (by omega) (by omega)
     · rw [← e3]
       simp [l4,num,tx,e4]
   · have e1:i=l.length:=by omega
     subst e1
     simp [num,a2m,a00,PV.pl]
theorem c4v (l:List LRule) (hx:bdS 1048576 (a0d 1048576) l):f8 Tryz.prog 77 [.val (.list 2 (l.map l4)),.val (.list 2 (l.map l4))] (.ret (.val (.bool true)) []) []:=by
 refine i7 mixed ok77 rfl (fun _=>rfl) ?_
 unfold ir77
 rw [b7]
 have hl:l.length≤1048576:=hx.1
 simp [i6,j3,j9,b8,f6,num]
 refine l3 (X:=Nat) (fun i=>⟨x5 [(0,.val (.list 2 (l.map l4))),(1,.val (.list 2 (l.map l4))),(5,.val (num i))],x4 []⟩) (fun i=>i≤l.length) (fun i=>l.length - i) 0 (Le.mk _ _ ?_ ?_) ?_ ?_
 · simp [upd,num,PV.kill]
 · simp
 · simp
 · intro i hi
   simp [num]
   refine j1 (fun h1=>?_) (fun h1=>?_)
   · have e1:(l.map l4)[i]?.getD .nilptr=l4 l[i]:=by simp [List.getElem?_eq_getElem h1]
     simp [num,h1,e1,l4,tx]
     refine b6 rfl rfl (.inl rfl) (c7f l[i] (hx.2 _ (List.getElem_mem h1))) ?_
     simp
     refine LoopNext.mk (i+1) (by omega) (by omega) (Le.mk _ _ ?_ ?_)
     · simp [num];exact wrap_i64 (by omega) (by omega)
     · simp
   · simp
theorem c07 (x:LPolicy) (left:Int) (h0:0≤left) (h1:left≤1048576) (hx:Z8 9223372036854775807 x):f8 Tryz.prog 20 [.val (l8 x),.val (num left)] (.ret (.val (num (cut left (a10 x)))) []) []:=by
 refine i7 mixed ok20 rfl (fun _=>rfl) ?_
 unfold ir20
 rw [b7]
 unfold Z8 at hx
 obtain ⟨b0,b1,b2⟩:=hx
 unfold a10
 have w0:IntKind.i64.wrap (left - ((x.reportTo.length:Nat):Int))=left - ((x.reportTo.length:Nat):Int):=wrap_i64 (by omega) (by omega)
 by_cases k0:left - ((x.reportTo.length:Nat):Int) < 0
 · rw [l7 (by omega)]
   simp [i6,j3,j9,b8,f6,l8,tx,num,b9,j2,w0,k0]
 · simp [i6,j3,j9,b8,f6,l8,tx,num,b9,j2,w0,k0]
   refine b6 rfl rfl (.inl rfl) (a6n x.uris (left - (x.reportTo.length:Nat)) (by omega) (by omega) b1) ?_
   by_cases k1:(left - (x.reportTo.length:Nat)) - ((zS List.length x.uris:Nat):Int) < 0
   · first | rw [l7 (by omega),l7 (by omega)] | rw [l7 (by omega)]
     simp [l8,tx,num,b9,j2]
   · rw [I5 (show ¬ (left - (x.reportTo.length:Nat)) - ((zS List.length x.uris:Nat):Int) < 0 by omega)]
     simp [l8,tx,num,b9,j2,k0,k1]
     refine b6 rfl rfl (.inl rfl) (c4q x.rules (left - (x.reportTo.length:Nat) - (zS List.length x.uris:Nat)) (by omega) (by omega) b2) ?_
     by_cases k2:(left - (x.reportTo.length:Nat) - (zS List.length x.uris:Nat)) - ((zS a0n x.rules:Nat):Int) < 0
     · first | rw [l7 (by omega),l7 (by omega)] | rw [l7 (by omega)]
       simp [l8,tx,num,b9,j2]
     · first | rw [I5 (by omega),I5 (by omega)] | rw [I5 (by omega)]
       simp [l8,tx,num,b9,j2,k0,k1,k2]
       try omega
theorem c04 (x:LPolicy) (hx:Z8 1048576 x):f8 Tryz.prog 22 [.val (l8 x)] (.ret (.val (l8 x)) []) []:=by
 refine i7 mixed ok22 rfl (fun _=>rfl) ?_
 unfold ir22
 rw [b7]
 unfold Z8 at hx
 obtain ⟨b0,b1,b2⟩:=hx
 simp [i6,j3,j9,b8,f6,l8,tx,num,j2]
 refine b6 rfl rfl (.inl rfl) (a6m x.uris b1) ?_
 simp [l8,tx,num,j2]
 refine b6 rfl rfl (.inl rfl) (c4k x.rules b2) ?_
 simp [l8,tx,num,j2]
 refine (a31 (id:=2) (n:=3) (rs:=[tx x.reportTo,.list 1 (x.uris.map tx),.list 2 (x.rules.map l4)]) ?_ ?_ rfl (by omega)).trans ?_
 · simp
 · simp [tx,num]
 · simp [l8,tx,num,j2]
theorem c1a (x:LPolicy) (hx:Z8 1048576 x):f8 Tryz.prog 25 [.val (l8 x),.val (l8 x)] (.ret (.val (.bool true)) []) []:=by
 refine i7 mixed ok25 rfl (fun _=>rfl) ?_
 unfold ir25
 rw [b7]
 unfold Z8 at hx
 obtain ⟨b0,b1,b2⟩:=hx
 simp [i6,j3,j9,b8,f6,l8,tx,num,j2]
 refine b6 rfl rfl (.inl rfl) (a6o x.uris b1) ?_
 simp [l8,tx,num,j2]
 refine b6 rfl rfl (.inl rfl) (c4v x.rules b2) ?_
 simp [l8,tx,num,j2]
end Go.Proofs
end
section
namespace Go.Proofs
open Go.PW Go.KP
attribute [local simp] RV.cells RV.one PV.cells PV.solid PV.one x6 j2 J4 I7 RV.ofCells elems PV.killL
variable [GF]
theorem b2y (x:LTarget) (left:Int) (h0:0≤left) (h1:left≤1048576) (hx:V1 9223372036854775807 x):f8 Tryz.prog 293 [.val (j4 x),.val (num left)] (.ret (.val (num (cut left (S8 x)))) []) []:=by
 refine i7 mixed ok293 rfl (fun _=>rfl) ?_
 unfold ir293
 rw [b7]
 unfold V1 at hx
 have b0:=hx
 unfold S8
 have w0:IntKind.i64.wrap (left - ((x.url.length:Nat):Int))=left - ((x.url.length:Nat):Int):=wrap_i64 (by omega) (by omega)
 by_cases k0:left - ((x.url.length:Nat):Int) < 0
 · rw [l7 (by omega)]
   simp [i6,j3,j9,b8,f6,j4,tx,num,b9,j2,w0,k0]
 · rw [I5 (by omega)]
   simp [i6,j3,j9,b8,f6,j4,tx,num,b9,j2,w0,k0]
   try omega
theorem b2w (x:LTarget) (hx:V1 1048576 x):f8 Tryz.prog 295 [.val (j4 x)] (.ret (.val (j4 x)) []) []:=by
 refine i7 mixed ok295 rfl (fun _=>rfl) ?_
 unfold ir295
 rw [b7]
 unfold V1 at hx
 have b0:=hx
 simp [i6,j3,j9,b8,f6,j4,tx,num,j2]
 refine (a31 (id:=2) (n:=3) (rs:=[tx x.url,num x.prio,num x.weight]) ?_ ?_ rfl (by omega)).trans ?_
 · simp
 · simp [tx,num]
 · simp [j4,tx,num,j2]
theorem b2z (x:LTarget) (hx:V1 1048576 x):f8 Tryz.prog 135 [.val (j4 x),.val (j4 x)] (.ret (.val (.bool true)) []) []:=by
 refine i7 mixed ok135 rfl (fun _=>rfl) ?_
 unfold ir135
 rw [b7]
 unfold V1 at hx
 have b0:=hx
 simp [i6,j3,j9,b8,f6,j4,tx,num,j2]
theorem b8i (l:List LTarget) (left:Int) (h0:0≤left) (h1:left≤1048576) (hx:bdS 9223372036854775807 (V1 9223372036854775807) l):f8 Tryz.prog 223 [.val (.list 3 (l.map j4)),.val (num left)] (.ret (.val (num (cut left (zS S8 l)))) []) []:=by
 refine i7 mixed ok223 rfl (fun _=>rfl) ?_
 unfold ir223
 rw [b7]
 have hl:l.length≤9223372036854775807:=hx.1
 have hw:IntKind.i64.wrap (left - (l.length:Int))=left - l.length:=wrap_i64 (by omega) (by omega)
 have hzs:zS S8 l=l.length+O2 S8 l:=rfl
 by_cases h:left - (l.length:Int) < 0
 · rw [l7 (by omega)]
   simp [i6,j3,j9,b8,f6,num,hw,h]
 · simp [i6,j3,j9,b8,f6,num,hw,h]
   refine l3 (X:=Nat) (fun i=>⟨x5 [(0,.val (.list 3 (l.map j4))),(1,.val (num (left - l.length - (O2 S8 (l.take i):Nat)))),(5,.val (num i))],x4 []⟩) (fun i=>i≤l.length∧0≤left - l.length - (O2 S8 (l.take i):Nat)) (fun i=>l.length - i) 0 (Le.mk _ _ ?_ ?_) ?_ ?_
   · simp [upd,num,O2,PV.kill]
   · simp
   · simp [O2];omega
   · rintro i ⟨hi,hg⟩
     simp [num]
     refine j1 (fun h2=>?_) (fun h2=>?_)
     · have e1:(l.map j4)[i]?.getD .nilptr=j4 l[i]:=by simp [List.getElem?_eq_getElem h2]
       have hsn:O2 S8 (l.take (i+1))=O2 S8 (l.take i)+S8 l[i]:=a29 _ h2
       have hle:=a5j (f:=S8) l (i+1)
       simp [num,h2,e1,j4,tx]
       refine b6 rfl rfl (.inl rfl) (b2y l[i] (left - l.length - (O2 S8 (l.take i):Nat)) (by omega) (by omega) (hx.2 _ (List.getElem_mem h2))) ?_
       by_cases h3:left - (l.length:Int) - (O2 S8 (l.take i):Int) - (S8 l[i]:Int) < 0
       · have c1:cut (left - l.length - (O2 S8 (l.take i):Nat)) (S8 l[i])=-1:=l7 (by omega)
         have c2:cut left (zS S8 l)=-1:=l7 (by omega)
         rw [c1,c2]
         simp [num]
       · have c1:cut (left - l.length - (O2 S8 (l.take i):Nat)) (S8 l[i])=left - l.length - (O2 S8 (l.take i):Nat) - (S8 l[i]:Nat):=I5 (by omega)
         rw [c1]
         simp [num,h3]
         refine LoopNext.mk (i+1) ⟨by omega,by omega⟩ (by omega) (Le.mk _ _ ?_ ?_)
         · simp [num]
           exact ⟨by omega,wrap_i64 (by omega) (by omega)⟩
         · simp
     · have e1:i=l.length:=by omega
       subst e1
       rw [List.take_length] at *
       rw [I5 (by omega)]
       simp [num]
       omega
theorem b8f (l:List LTarget) (hx:bdS 1048576 (V1 1048576) l):f8 Tryz.prog 226 [.val (.list 3 (l.map j4))] (.ret (.val (.list 3 (l.map j4))) []) []:=by
 refine i7 mixed ok226 rfl (fun _=>rfl) ?_
 unfold ir226
 rw [b7]
 have hl:l.length≤1048576:=hx.1
 simp [i6,j3,j9,b8,f6,num,x6]
 refine ⟨by omega,by omega,?_⟩
 refine l3 (X:=Nat) (fun i=>⟨x5 [(0,.val (.list 3 (l.map j4))),(3,.own 7),(4,.val (num i))],x4 [(7,.row 185 3 (a0u j4 (.agg [.str (bs []),.int .i64 0,.int .i64 0]) l i))]⟩) (fun i=>i≤l.length) (fun i=>l.length - i) 0 (Le.mk _ _ ?_ ?_) ?_ ?_
 · simp [upd,num,PV.kill]
 · simp [upd,num,bs,a1d]
 · simp
 · intro i hi
   have hlen:=a2l j4 (.agg [.str (bs []),.int .i64 0,.int .i64 0]) l i hi
   simp [num,x6]
   refine j1 (fun h1=>?_) (fun h1=>?_)
   · have e1:(l.map j4)[i]?.getD .nilptr=j4 l[i]:=by simp [List.getElem?_eq_getElem h1]
     have e2:=a3v j4 (.agg [.str (bs []),.int .i64 0,.int .i64 0]) l i h1
     have e3:=a2k j4 (.agg [.str (bs []),.int .i64 0,.int .i64 0]) l i h1
     have e4:(a0u j4 (.agg [.str (bs []),.int .i64 0,.int .i64 0]) l i)[i]'(by omega)=(.agg [.str (bs []),.int .i64 0,.int .i64 0]):=by
      have h9:=e2
      rw [List.getElem?_eq_getElem (show i < (a0u j4 (.agg [.str (bs []),.int .i64 0,.int .i64 0]) l i).length by omega)] at h9
      exact h9
     simp [num,h1,e1,j4,tx,hlen,x6]
     refine b6 rfl rfl (.inl rfl) (b2w l[i] (hx.2 _ (List.getElem_mem h1))) ?_
     simp [num,h1,e1,e2,j4,tx,hlen,x6]
     refine LoopNext.mk (i+1) (by omega) (by omega) (Le.mk _ _ ?_ ?_)
     · simp [num];exact wrap_i64 (by omega) (by omega)
     · rw [← e3]
       simp [j4,num,tx,e4]
   · have e1:i=l.length:=by omega
     subst e1
     simp [num,a2m,a00,PV.pl]
theorem b8l (l:List LTarget) (hx:bdS 1048576 (V1 1048576) l):f8 Tryz.prog 76 [.val (.list 3 (l.map j4)),.val (.list 3 (l.map j4))] (.ret (.val (.bool true)) []) []:=by
 refine i7 mixed ok76 rfl (fun _=>rfl) ?_
 unfold ir76
 rw [b7]
 have hl:l.length≤1048576:=hx.1
 simp [i6,j3,j9,b8,f6,num]
 refine l3 (X:=Nat) (fun i=>⟨x5 [(0,.val (.list 3 (l.map j4))),(1,.val (.list 3 (l.map j4))),(5,.val (num i))],x4 []⟩) (fun i=>i≤l.length) (fun i=>l.length - i) 0 (Le.mk _ _ ?_ ?_) ?_ ?_
 · simp [upd,num,PV.kill]
 · simp
 · simp
 · intro i hi
   simp [num]
   refine j1 (fun h1=>?_) (fun h1=>?_)
   · have e1:(l.map j4)[i]?.getD .nilptr=j4 l[i]:=by simp [List.getElem?_eq_getElem h1]
     simp [num,h1,e1,j4,tx]
     refine b6 rfl rfl (.inl rfl) (b2z l[i] (hx.2 _ (List.getElem_mem h1))) ?_
     simp
     refine LoopNext.mk (i+1) (by omega) (by omega) (Le.mk _ _ ?_ ?_)
     · simp [num];exact wrap_i64 (by omega) (by omega)
     · simp
   · simp
theorem c4t (x:LGroup) (left:Int) (h0:0≤left) (h1:left≤1048576) (hx:a1l 9223372036854775807 x):f8 Tryz.prog 160 [.val (I8 x),.val (num left)] (.ret (.val (num (cut left (a3q x)))) []) []:=by
 refine i7 mixed ok160 rfl (fun _=>rfl) ?_
 unfold ir160
 rw [b7]
 unfold a1l at hx
 obtain ⟨b0,b1⟩:=hx
 unfold a3q
 have w0:IntKind.i64.wrap (left - ((x.name.length:Nat):Int))=left - ((x.name.length:Nat):Int):=wrap_i64 (by omega) (by omega)
 by_cases k0:left - ((x.name.length:Nat):Int) < 0
 · rw [l7 (by omega)]
   simp [i6,j3,j9,b8,f6,I8,tx,num,b9,j2,w0,k0]
 · simp [i6,j3,j9,b8,f6,I8,tx,num,b9,j2,w0,k0]
   refine b6 rfl rfl (.inl rfl) (b8i x.targets (left - (x.name.length:Nat)) (by omega) (by omega) b1) ?_
   by_cases k1:(left - (x.name.length:Nat)) - ((zS S8 x.targets:Nat):Int) < 0
   · first | rw [l7 (by omega),l7 (by omega)] | rw [l7 (by omega)]
     simp [I8,tx,num,b9,j2]
   · first | rw [I5 (by omega),I5 (by omega)] | rw [I5 (by omega)]
     simp [I8,tx,num,b9,j2,k0,k1]
     try omega
theorem c4n (x:LGroup) (hx:a1l 1048576 x):f8 Tryz.prog 164 [.val (I8 x)] (.ret (.val (I8 x)) []) []:=by
 refine i7 mixed ok164 rfl (fun _=>rfl) ?_
 unfold ir164
 rw [b7]
 unfold a1l at hx
 obtain ⟨b0,b1⟩:=hx
 simp [i6,j3,j9,b8,f6,I8,tx,num,j2]
 refine b6 rfl rfl (.inl rfl) (b8f x.targets b1) ?_
 simp [I8,tx,num,j2]
 refine (a31 (id:=2) (n:=3) (rs:=[tx x.name,num x.age,.list 3 (x.targets.map j4)]) ?_ ?_ rfl (by omega)).trans ?_
 · simp
 · simp [tx,num]
 · simp [I8,tx,num,j2]
theorem c4y (x:LGroup) (hx:a1l 1048576 x):f8 Tryz.prog 24 [.val (I8 x),.val (I8 x)] (.ret (.val (.bool true)) []) []:=by
 refine i7 mixed ok24 rfl (fun _=>rfl) ?_
 unfold ir24
 rw [b7]
 unfold a1l at hx
 obtain ⟨b0,b1⟩:=hx
 simp [i6,j3,j9,b8,f6,I8,tx,num,j2]
 refine b6 rfl rfl (.inl rfl) (b8l x.targets b1) ?_
 simp [I8,tx,num,j2]
end Go.Proofs
end
section
namespace Go.Proofs
open Go.PW Go.KP
attribute [local simp] RV.cells RV.one PV.cells PV.solid PV.one x6 j2 J4 I7 RV.ofCells elems PV.killL
variable [GF]
theorem c7d (l:List Int) (left:Int) (h0:0≤left) (h1:left≤1048576) (hl:l.length≤9223372036854775807):f8 Tryz.prog 163 [.val (.list 1 (l.map num)),.val (num left)] (.ret (.val (num (cut left l.length))) []) []:=by
 refine i7 mixed ok163 rfl (fun _=>rfl) ?_
 unfold ir163
 rw [b7]
 have hw:IntKind.i64.wrap (left - (l.length:Int))=left - l.length:=wrap_i64 (by omega) (by omega)
 by_cases h:left - (l.length:Int) < 0
 · rw [l7 (by omega)]
   simp [i6,j3,j9,b8,f6,num,hw,h]
 · rw [I5 (by omega)]
   simp [i6,j3,j9,b8,f6,num,hw,h]
theorem c68 (l:List Int) (hx:l.length≤1048576):f8 Tryz.prog 167 [.val (.list 1 (l.map num))] (.ret (.val (.list 1 (l.map num))) []) []:=by
 refine i7 mixed ok167 rfl (fun _=>rfl) ?_
 unfold ir167
 rw [b7]
 have hl:l.length≤1048576:=hx
 simp [i6,j3,j9,b8,f6,num,x6]
 refine ⟨by omega,by omega,?_⟩
 refine l3 (X:=Nat) (fun i=>⟨x5 [(0,.val (.list 1 (l.map num))),(3,.own 7),(4,.val (num i))],x4 [(7,.row 3 1 (a0u num (.int .i64 0) l i))]⟩) (fun i=>i≤l.length) (fun i=>l.length - i) 0 (Le.mk _ _ ?_ ?_) ?_ ?_
 · simp [upd,num,PV.kill]
 · simp [upd,num,bs,a1d]
 · simp
 · intro i hi
   have hlen:=a2l num (.int .i64 0) l i hi
   simp [num,x6]
   refine j1 (fun h1=>?_) (fun h1=>?_)
   · have e1:(l.map num)[i]?.getD .nilptr=num l[i]:=by simp [List.getElem?_eq_getElem h1]
     have e2:=a3v num (.int .i64 0) l i h1
     have e3:=a2k num (.int .i64 0) l i h1
     have e4:(a0u num (.int .i64 0) l i)[i]'(by omega)=(.int .i64 0):=by
      have h9:=e2
      rw [List.getElem?_eq_getElem (show i < (a0u num (.int .i64 0) l i).length by omega)] at h9
      exact h9
     simp [num,h1,e1,tx,hlen,x6]
     refine LoopNext.mk (i+1) (by omega) (by omega) (Le.mk _ _ ?_ ?_)
     · simp [num];exact wrap_i64 (by omega) (by omega)
     · rw [← e3]
       simp [num,tx,e4]
   · have e1:i=l.length:=by omega
     subst e1
     simp [num,a2m,a00,PV.pl]
theorem c7i (l:List Int) (hx:l.length≤1048576):f8 Tryz.prog 16 [.val (.list 1 (l.map num)),.val (.list 1 (l.map num))] (.ret (.val (.bool true)) []) []:=by
 refine i7 mixed ok16 rfl (fun _=>rfl) ?_
 unfold ir16
 rw [b7]
 have hl:l.length≤1048576:=hx
 simp [i6,j3,j9,b8,f6,num]
 refine l3 (X:=Nat) (fun i=>⟨x5 [(0,.val (.list 1 (l.map num))),(1,.val (.list 1 (l.map num))),(5,.val (num i))],x4 []⟩) (fun i=>i≤l.length) (fun i=>l.length - i) 0 (Le.mk _ _ ?_ ?_) ?_ ?_
 · simp [upd,num,PV.kill]
 · simp
 · simp
 · intro i hi
   simp [num]
   refine j1 (fun h1=>?_) (fun h1=>?_)
   · have e1:(l.map num)[i]?.getD .nilptr=num l[i]:=by simp [List.getElem?_eq_getElem h1]
     simp [num,h1,e1,tx]
     refine LoopNext.mk (i+1) (by omega) (by omega) (Le.mk _ _ ?_ ?_)
     · simp [num];exact wrap_i64 (by omega) (by omega)
     · simp
   · simp
theorem c06 (x:LReport) (left:Int) (h0:0≤left) (h1:left≤1048576) (hx:Y5 9223372036854775807 x):f8 Tryz.prog 294 [.val (j8 x),.val (num left)] (.ret (.val (num (cut left (S5 x)))) []) []:=by
 refine i7 mixed ok294 rfl (fun _=>rfl) ?_
 unfold ir294
 rw [b7]
 unfold Y5 at hx
 have b0:=hx
 unfold S5
 have w0:IntKind.i64.wrap (left - ((x.body.length:Nat):Int))=left - ((x.body.length:Nat):Int):=wrap_i64 (by omega) (by omega)
 by_cases k0:left - ((x.body.length:Nat):Int) < 0
 · rw [l7 (by omega)]
   simp [i6,j3,j9,b8,f6,j8,tx,num,b9,j2,w0,k0]
 · rw [I5 (by omega)]
   simp [i6,j3,j9,b8,f6,j8,tx,num,b9,j2,w0,k0]
   try omega
theorem c03 (x:LReport) (hx:Y5 1048576 x):f8 Tryz.prog 296 [.val (j8 x)] (.ret (.val (j8 x)) []) []:=by
 refine i7 mixed ok296 rfl (fun _=>rfl) ?_
 unfold ir296
 rw [b7]
 unfold Y5 at hx
 have b0:=hx
 simp [i6,j3,j9,b8,f6,j8,tx,num,j2]
 refine (a31 (id:=2) (n:=4) (rs:=[num x.id,num x.born,num x.tries,tx x.body]) ?_ ?_ rfl (by omega)).trans ?_
 · simp
 · simp [tx,num]
 · simp [j8,tx,num,j2]
theorem c09 (x:LReport) (hx:Y5 1048576 x):f8 Tryz.prog 297 [.val (j8 x),.val (j8 x)] (.ret (.val (.bool true)) []) []:=by
 refine i7 mixed ok297 rfl (fun _=>rfl) ?_
 unfold ir297
 rw [b7]
 unfold Y5 at hx
 have b0:=hx
 simp [i6,j3,j9,b8,f6,j8,tx,num,j2]
theorem b8j (l:List LReport) (left:Int) (h0:0≤left) (h1:left≤1048576) (hx:bdS 9223372036854775807 (Y5 9223372036854775807) l):f8 Tryz.prog 225 [.val (.list 4 (l.map j8)),.val (num left)] (.ret (.val (num (cut left (zS S5 l)))) []) []:=by
 refine i7 mixed ok225 rfl (fun _=>rfl) ?_
 unfold ir225
 rw [b7]
 have hl:l.length≤9223372036854775807:=hx.1
 have hw:IntKind.i64.wrap (left - (l.length:Int))=left - l.length:=wrap_i64 (by omega) (by omega)
 have hzs:zS S5 l=l.length+O2 S5 l:=rfl
 by_cases h:left - (l.length:Int) < 0
 · rw [l7 (by omega)]
   simp [i6,j3,j9,b8,f6,num,hw,h]
 · simp [i6,j3,j9,b8,f6,num,hw,h]
   refine l3 (X:=Nat) (fun i=>⟨x5 [(0,.val (.list 4 (l.map j8))),(1,.val (num (left - l.length - (O2 S5 (l.take i):Nat)))),(5,.val (num i))],x4 []⟩) (fun i=>i≤l.length∧0≤left - l.length - (O2 S5 (l.take i):Nat)) (fun i=>l.length - i) 0 (Le.mk _ _ ?_ ?_) ?_ ?_
   · simp [upd,num,O2,PV.kill]
   · simp
   · simp [O2];omega
   · rintro i ⟨hi,hg⟩
     simp [num]
     refine j1 (fun h2=>?_) (fun h2=>?_)
     · have e1:(l.map j8)[i]?.getD .nilptr=j8 l[i]:=by simp [List.getElem?_eq_getElem h2]
       have hsn:O2 S5 (l.take (i+1))=O2 S5 (l.take i)+S5 l[i]:=a29 _ h2
       have hle:=a5j (f:=S5) l (i+1)
       simp [num,h2,e1,j8,tx]
       refine b6 rfl rfl (.inl rfl) (c06 l[i] (left - l.length - (O2 S5 (l.take i):Nat)) (by omega) (by omega) (hx.2 _ (List.getElem_mem h2))) ?_
       by_cases h3:left - (l.length:Int) - (O2 S5 (l.take i):Int) - (S5 l[i]:Int) < 0
       · have c1:cut (left - l.length - (O2 S5 (l.take i):Nat)) (S5 l[i])=-1:=l7 (by omega)
         have c2:cut left (zS S5 l)=-1:=l7 (by omega)
         rw [c1,c2]
         simp [num]
       · have c1:cut (left - l.length - (O2 S5 (l.take i):Nat)) (S5 l[i])=left - l.length - (O2 S5 (l.take i):Nat) - (S5 l[i]:Nat):=I5 (by omega)
         rw [c1]
         simp [num,h3]
         refine LoopNext.mk (i+1) ⟨by omega,by omega⟩ (by omega) (Le.mk _ _ ?_ ?_)
         · simp [num]
           exact ⟨by omega,wrap_i64 (by omega) (by omega)⟩
         · simp
     · have e1:i=l.length:=by omega
       subst e1
       rw [List.take_length] at *
       rw [I5 (by omega)]
       simp [num]
       omega
theorem b8g (l:List LReport) (hx:bdS 1048576 (Y5 1048576) l):f8 Tryz.prog 228 [.val (.list 4 (l.map j8))] (.ret (.val (.list 4 (l.map j8))) []) []:=by
 refine i7 mixed ok228 rfl (fun _=>rfl) ?_
 unfold ir228
 rw [b7]
 have hl:l.length≤1048576:=hx.1
 simp [i6,j3,j9,b8,f6,num,x6]
 refine ⟨by omega,by omega,?_⟩
 refine l3 (X:=Nat) (fun i=>⟨x5 [(0,.val (.list 4 (l.map j8))),(3,.own 7),(4,.val (num i))],x4 [(7,.row 174 4 (a0u j8 (.agg [.int .i64 0,.int .i64 0,.int .i64 0,.str (bs [])]) l i))]⟩) (fun i=>i≤l.length) (fun i=>l.length - i) 0 (Le.mk _ _ ?_ ?_) ?_ ?_
 · simp [upd,num,PV.kill]
 · simp [upd,num,bs,a1d]
 · simp
 · intro i hi
   have hlen:=a2l j8 (.agg [.int .i64 0,.int .i64 0,.int .i64 0,.str (bs [])]) l i hi
   simp [num,x6]
   refine j1 (fun h1=>?_) (fun h1=>?_)
   · have e1:(l.map j8)[i]?.getD .nilptr=j8 l[i]:=by simp [List.getElem?_eq_getElem h1]
     have e2:=a3v j8 (.agg [.int .i64 0,.int .i64 0,.int .i64 0,.str (bs [])]) l i h1
     have e3:=a2k j8 (.agg [.int .i64 0,.int .i64 0,.int .i64 0,.str (bs [])]) l i h1
     have e4:(a0u j8 (.agg [.int .i64 0,.int .i64 0,.int .i64 0,.str (bs [])]) l i)[i]'(by omega)=(.agg [.int .i64 0,.int .i64 0,.int .i64 0,.str (bs [])]):=by
      have h9:=e2
      rw [List.getElem?_eq_getElem (show i < (a0u j8 (.agg [.int .i64 0,.int .i64 0,.int .i64 0,.str (bs [])]) l i).length by omega)] at h9
      exact h9
     simp [num,h1,e1,j8,tx,hlen,x6]
     refine b6 rfl rfl (.inl rfl) (c03 l[i] (hx.2 _ (List.getElem_mem h1))) ?_
     simp [num,h1,e1,e2,j8,tx,hlen,x6]
     refine LoopNext.mk (i+1) (by omega) (by omega) (Le.mk _ _ ?_ ?_)
     · simp [num];exact wrap_i64 (by omega) (by omega)
     · rw [← e3]
       simp [j8,num,tx,e4]
   · have e1:i=l.length:=by omega
     subst e1
     simp [num,a2m,a00,PV.pl]
theorem b8m (l:List LReport) (hx:bdS 1048576 (Y5 1048576) l):f8 Tryz.prog 230 [.val (.list 4 (l.map j8)),.val (.list 4 (l.map j8))] (.ret (.val (.bool true)) []) []:=by
 refine i7 mixed ok230 rfl (fun _=>rfl) ?_
 unfold ir230
 rw [b7]
 have hl:l.length≤1048576:=hx.1
 simp [i6,j3,j9,b8,f6,num]
 refine l3 (X:=Nat) (fun i=>⟨x5 [(0,.val (.list 4 (l.map j8))),(1,.val (.list 4 (l.map j8))),(5,.val (num i))],x4 []⟩) (fun i=>i≤l.length) (fun i=>l.length - i) 0 (Le.mk _ _ ?_ ?_) ?_ ?_
 · simp [upd,num,PV.kill]
 · simp
 · simp
 · intro i hi
   simp [num]
   refine j1 (fun h1=>?_) (fun h1=>?_)
   · have e1:(l.map j8)[i]?.getD .nilptr=j8 l[i]:=by simp [List.getElem?_eq_getElem h1]
     simp [num,h1,e1,j8,tx]
     refine b6 rfl rfl (.inl rfl) (c09 l[i] (hx.2 _ (List.getElem_mem h1))) ?_
     simp
     refine LoopNext.mk (i+1) (by omega) (by omega) (Le.mk _ _ ?_ ?_)
     · simp [num];exact wrap_i64 (by omega) (by omega)
     · simp
   · simp
theorem c4r (x:LQueue) (left:Int) (h0:0≤left) (h1:left≤1048576) (hx:a14 9223372036854775807 x):f8 Tryz.prog 162 [.val (C3 x),.val (num left)] (.ret (.val (num (cut left (a9j x)))) []) []:=by
 refine i7 mixed ok162 rfl (fun _=>rfl) ?_
 unfold ir162
 rw [b7]
 unfold a14 at hx
 obtain ⟨b0,b1⟩:=hx
 unfold a9j
 simp [i6,j3,j9,b8,f6,C3,tx,num,b9,j2]
 refine b6 rfl rfl (.inl rfl) (b8j x.items left (by omega) (by omega) b0) ?_
 by_cases k0:left - ((zS S5 x.items:Nat):Int) < 0
 · first | rw [l7 (by omega),l7 (by omega)] | rw [l7 (by omega)]
   simp [C3,tx,num,b9,j2]
 · rw [I5 (show ¬ left - ((zS S5 x.items:Nat):Int) < 0 by omega)]
   simp [C3,tx,num,b9,j2,k0]
   refine b6 rfl rfl (.inl rfl) (a6n x.recent (left - (zS S5 x.items:Nat)) (by omega) (by omega) b1) ?_
   by_cases k1:(left - (zS S5 x.items:Nat)) - ((zS List.length x.recent:Nat):Int) < 0
   · first | rw [l7 (by omega),l7 (by omega)] | rw [l7 (by omega)]
     simp [C3,tx,num,b9,j2]
   · first | rw [I5 (by omega),I5 (by omega)] | rw [I5 (by omega)]
     simp [C3,tx,num,b9,j2,k0,k1]
     try omega
theorem c4l (x:LQueue) (hx:a14 1048576 x):f8 Tryz.prog 166 [.val (C3 x)] (.ret (.val (C3 x)) []) []:=by
 refine i7 mixed ok166 rfl (fun _=>rfl) ?_
 unfold ir166
 rw [b7]
 unfold a14 at hx
 obtain ⟨b0,b1⟩:=hx
 simp [i6,j3,j9,b8,f6,C3,tx,num,j2]
 refine b6 rfl rfl (.inl rfl) (b8g x.items b0) ?_
 simp [C3,tx,num,j2]
 refine b6 rfl rfl (.inl rfl) (a6m x.recent b1) ?_
 simp [C3,tx,num,j2]
 refine (a31 (id:=2) (n:=2) (rs:=[.list 4 (x.items.map j8),.list 1 (x.recent.map tx)]) ?_ ?_ rfl (by omega)).trans ?_
 · simp
 · simp [tx,num]
 · simp [C3,tx,num,j2]
theorem c4w (x:LQueue) (hx:a14 1048576 x):f8 Tryz.prog 169 [.val (C3 x),.val (C3 x)] (.ret (.val (.bool true)) []) []:=by
 refine i7 mixed ok169 rfl (fun _=>rfl) ?_
 unfold ir169
 rw [b7]
 unfold a14 at hx
 obtain ⟨b0,b1⟩:=hx
 simp [i6,j3,j9,b8,f6,C3,tx,num,j2]
 refine b6 rfl rfl (.inl rfl) (b8m x.items b0) ?_
 simp [C3,tx,num,j2]
 refine b6 rfl rfl (.inl rfl) (a6o x.recent b1) ?_
 simp [C3,tx,num,j2]
theorem c7c (x:LPeer) (left:Int) (h0:0≤left) (h1:left≤1048576) (hx:a1b 9223372036854775807 x):f8 Tryz.prog 224 [.val (C6 x),.val (num left)] (.ret (.val (num (cut left (Z2 x)))) []) []:=by
 refine i7 mixed ok224 rfl (fun _=>rfl) ?_
 unfold ir224
 rw [b7]
 unfold a1b at hx
 have b0:=hx
 unfold Z2
 simp [i6,j3,j9,b8,f6,j4,C6,tx,num,b9,j2]
 refine b6 rfl rfl (.inl rfl) (b2y x.target left (by omega) (by omega) b0) ?_
 by_cases k0:left - ((S8 x.target:Nat):Int) < 0
 · first | rw [l7 (by omega),l7 (by omega)] | rw [l7 (by omega)]
   simp [j4,C6,tx,num,b9,j2]
 · first | rw [I5 (by omega),I5 (by omega)] | rw [I5 (by omega)]
   simp [j4,C6,tx,num,b9,j2,k0]
   try omega
theorem c67 (x:LPeer) (hx:a1b 1048576 x):f8 Tryz.prog 227 [.val (C6 x)] (.ret (.val (C6 x)) []) []:=by
 refine i7 mixed ok227 rfl (fun _=>rfl) ?_
 unfold ir227
 rw [b7]
 unfold a1b at hx
 have b0:=hx
 simp [i6,j3,j9,b8,f6,j4,C6,tx,num,j2]
 refine b6 rfl rfl (.inl rfl) (b2w x.target b0) ?_
 simp [j4,C6,tx,num,j2]
 refine (a31 (id:=2) (n:=6) (rs:=[tx x.target.url,num x.target.prio,num x.target.weight,num x.fails,num x.retry,.bool x.gone]) ?_ ?_ rfl (by omega)).trans ?_
 · simp
 · simp [tx,num]
 · simp [j4,C6,tx,num,j2]
theorem c7h (x:LPeer) (hx:a1b 1048576 x):f8 Tryz.prog 229 [.val (C6 x),.val (C6 x)] (.ret (.val (.bool true)) []) []:=by
 refine i7 mixed ok229 rfl (fun _=>rfl) ?_
 unfold ir229
 rw [b7]
 unfold a1b at hx
 have b0:=hx
 simp [i6,j3,j9,b8,f6,j4,C6,tx,num,j2]
 refine b6 rfl rfl (.inl rfl) (b2z x.target b0) ?_
 simp [j4,C6,tx,num,j2]
theorem c4s (l:List LPeer) (left:Int) (h0:0≤left) (h1:left≤1048576) (hx:bdS 9223372036854775807 (a1b 9223372036854775807) l):f8 Tryz.prog 161 [.val (.list 6 (l.map C6)),.val (num left)] (.ret (.val (num (cut left (zS Z2 l)))) []) []:=by
 refine i7 mixed ok161 rfl (fun _=>rfl) ?_
 unfold ir161
 rw [b7]
 have hl:l.length≤9223372036854775807:=hx.1
 have hw:IntKind.i64.wrap (left - (l.length:Int))=left - l.length:=wrap_i64 (by omega) (by omega)
 have hzs:zS Z2 l=l.length+O2 Z2 l:=rfl
 by_cases h:left - (l.length:Int) < 0
 · rw [l7 (by omega)]
   simp [i6,j3,j9,b8,f6,num,hw,h]
 · simp [i6,j3,j9,b8,f6,num,hw,h]
   refine l3 (X:=Nat) (fun i=>⟨x5 [(0,.val (.list 6 (l.map C6))),(1,.val (num (left - l.length - (O2 Z2 (l.take i):Nat)))),(5,.val (num i))],x4 []⟩) (fun i=>i≤l.length∧0≤left - l.length - (O2 Z2 (l.take i):Nat)) (fun i=>l.length - i) 0 (Le.mk _ _ ?_ ?_) ?_ ?_
   · simp [upd,num,O2,PV.kill]
   · simp
   · simp [O2];omega
   · rintro i ⟨hi,hg⟩
     simp [num]
     refine j1 (fun h2=>?_) (fun h2=>?_)
     · have e1:(l.map C6)[i]?.getD .nilptr=C6 l[i]:=by simp [List.getElem?_eq_getElem h2]
       have hsn:O2 Z2 (l.take (i+1))=O2 Z2 (l.take i)+Z2 l[i]:=a29 _ h2
       have hle:=a5j (f:=Z2) l (i+1)
       simp [num,h2,e1,j4,C6,tx]
       refine b6 rfl rfl (.inl rfl) (c7c l[i] (left - l.length - (O2 Z2 (l.take i):Nat)) (by omega) (by omega) (hx.2 _ (List.getElem_mem h2))) ?_
       by_cases h3:left - (l.length:Int) - (O2 Z2 (l.take i):Int) - (Z2 l[i]:Int) < 0
       · have c1:cut (left - l.length - (O2 Z2 (l.take i):Nat)) (Z2 l[i])=-1:=l7 (by omega)
         have c2:cut left (zS Z2 l)=-1:=l7 (by omega)
         rw [c1,c2]
         simp [num]
       · have c1:cut (left - l.length - (O2 Z2 (l.take i):Nat)) (Z2 l[i])=left - l.length - (O2 Z2 (l.take i):Nat) - (Z2 l[i]:Nat):=I5 (by omega)
         rw [c1]
         simp [num,h3]
         refine LoopNext.mk (i+1) ⟨by omega,by omega⟩ (by omega) (Le.mk _ _ ?_ ?_)
         · simp [num]
           exact ⟨by omega,wrap_i64 (by omega) (by omega)⟩
         · simp
     · have e1:i=l.length:=by omega
       subst e1
       rw [List.take_length] at *
       rw [I5 (by omega)]
       simp [num]
       omega
theorem c4m (l:List LPeer) (hx:bdS 1048576 (a1b 1048576) l):f8 Tryz.prog 165 [.val (.list 6 (l.map C6))] (.ret (.val (.list 6 (l.map C6))) []) []:=by
 refine i7 mixed ok165 rfl (fun _=>rfl) ?_
 unfold ir165
 rw [b7]
 have hl:l.length≤1048576:=hx.1
 simp [i6,j3,j9,b8,f6,num,x6]
 refine ⟨by omega,by omega,?_⟩
 refine l3 (X:=Nat) (fun i=>⟨x5 [(0,.val (.list 6 (l.map C6))),(3,.own 7),(4,.val (num i))],x4 [(7,.row 194 6 (a0u C6 (.agg [.str (bs []),.int .i64 0,.int .i64 0,.int .i64 0,.int .i64 0,.bool false]) l i))]⟩) (fun i=>i≤l.length) (fun i=>l.length - i) 0 (Le.mk _ _ ?_ ?_) ?_ ?_
 · simp [upd,num,PV.kill]
 · simp [upd,num,bs,a1d]
 · simp
 · intro i hi
   have hlen:=a2l C6 (.agg [.str (bs []),.int .i64 0,.int .i64 0,.int .i64 0,.int .i64 0,.bool false]) l i hi
   simp [num,x6]
   refine j1 (fun h1=>?_) (fun h1=>?_)
   · have e1:(l.map C6)[i]?.getD .nilptr=C6 l[i]:=by simp [List.getElem?_eq_getElem h1]
     have e2:=a3v C6 (.agg [.str (bs []),.int .i64 0,.int .i64 0,.int .i64 0,.int .i64 0,.bool false]) l i h1
     have e3:=a2k C6 (.agg [.str (bs []),.int .i64 0,.int .i64 0,.int .i64 0,.int .i64 0,.bool false]) l i h1
     have e4:(a0u C6 (.agg [.str (bs []),.int .i64 0,.int .i64 0,.int .i64 0,.int .i64 0,.bool false]) l i)[i]'(by omega)=(.agg [.str (bs []),.int .i64 0,.int .i64 0,.int .i64 0,.int .i64 0,.bool false]):=by
      have h9:=e2
      rw [List.getElem?_eq_getElem (show i < (a0u C6 (.agg [.str (bs []),.int .i64 0,.int .i64 0,.int .i64 0,.int .i64 0,.bool false]) l i).length by omega)] at h9
      exact h9
     simp [num,h1,e1,j4,C6,tx,hlen,x6]
     refine b6 rfl rfl (.inl rfl) (c67 l[i] (hx.2 _ (List.getElem_mem h1))) ?_
     simp [num,h1,e1,e2,j4,C6,tx,hlen,x6]
     refine LoopNext.mk (i+1) (by omega) (by omega) (Le.mk _ _ ?_ ?_)
     · simp [num];exact wrap_i64 (by omega) (by omega)
     · rw [← e3]
       simp [j4,C6,num,tx,e4]
   · have e1:i=l.length:=by omega
     subst e1
     simp [num,a2m,a00,PV.pl]
theorem c4x (l:List LPeer) (hx:bdS 1048576 (a1b 1048576) l):f8 Tryz.prog 168 [.val (.list 6 (l.map C6)),.val (.list 6 (l.map C6))] (.ret (.val (.bool true)) []) []:=by
 refine i7 mixed ok168 rfl (fun _=>rfl) ?_
 unfold ir168
 rw [b7]
 have hl:l.length≤1048576:=hx.1
 simp [i6,j3,j9,b8,f6,num]
 refine l3 (X:=Nat) (fun i=>⟨x5 [(0,.val (.list 6 (l.map C6))),(1,.val (.list 6 (l.map C6))),(5,.val (num i))],x4 []⟩) (fun i=>i≤l.length) (fun i=>l.length - i) 0 (Le.mk _ _ ?_ ?_) ?_ ?_
 · simp [upd,num,PV.kill]
 · simp
 · simp
 · intro i hi
   simp [num]
   refine j1 (fun h1=>?_) (fun h1=>?_)
   · have e1:(l.map C6)[i]?.getD .nilptr=C6 l[i]:=by simp [List.getElem?_eq_getElem h1]
     simp [num,h1,e1,j4,C6,tx]
     refine b6 rfl rfl (.inl rfl) (c7h l[i] (hx.2 _ (List.getElem_mem h1))) ?_
     simp
     refine LoopNext.mk (i+1) (by omega) (by omega) (Le.mk _ _ ?_ ?_)
     · simp [num];exact wrap_i64 (by omega) (by omega)
     · simp
   · simp
theorem b8k (x:LChannel) (left:Int) (h0:0≤left) (h1:left≤1048576) (hx:T8 9223372036854775807 x):f8 Tryz.prog 97 [.val (j5 x),.val (num left)] (.ret (.val (num (cut left (J3 x)))) []) []:=by
 refine i7 mixed ok97 rfl (fun _=>rfl) ?_
 unfold ir97
 rw [b7]
 unfold T8 at hx
 obtain ⟨b0,b1,b2⟩:=hx
 unfold J3
 simp [i6,j3,j9,b8,f6,I8,C3,j5,tx,num,b9,j2]
 refine b6 rfl rfl (.inl rfl) (c4t x.group left (by omega) (by omega) b0) ?_
 by_cases k0:left - ((a3q x.group:Nat):Int) < 0
 · first | rw [l7 (by omega),l7 (by omega)] | rw [l7 (by omega)]
   simp [I8,C3,j5,tx,num,b9,j2]
 · rw [I5 (show ¬ left - ((a3q x.group:Nat):Int) < 0 by omega)]
   simp [I8,C3,j5,tx,num,b9,j2,k0]
   refine b6 rfl rfl (.inl rfl) (c4s x.peers (left - (a3q x.group:Nat)) (by omega) (by omega) b1) ?_
   by_cases k1:(left - (a3q x.group:Nat)) - ((zS Z2 x.peers:Nat):Int) < 0
   · first | rw [l7 (by omega),l7 (by omega)] | rw [l7 (by omega)]
     simp [I8,C3,j5,tx,num,b9,j2]
   · rw [I5 (show ¬ (left - (a3q x.group:Nat)) - ((zS Z2 x.peers:Nat):Int) < 0 by omega)]
     simp [I8,C3,j5,tx,num,b9,j2,k0,k1]
     refine b6 rfl rfl (.inl rfl) (c4r x.queue (left - (a3q x.group:Nat) - (zS Z2 x.peers:Nat)) (by omega) (by omega) b2) ?_
     by_cases k2:(left - (a3q x.group:Nat) - (zS Z2 x.peers:Nat)) - ((a9j x.queue:Nat):Int) < 0
     · first | rw [l7 (by omega),l7 (by omega)] | rw [l7 (by omega)]
       simp [I8,C3,j5,tx,num,b9,j2]
     · first | rw [I5 (by omega),I5 (by omega)] | rw [I5 (by omega)]
       simp [I8,C3,j5,tx,num,b9,j2,k0,k1,k2]
       try omega
theorem b8h (x:LChannel) (hx:T8 1048576 x):f8 Tryz.prog 101 [.val (j5 x)] (.ret (.val (j5 x)) []) []:=by
 refine i7 mixed ok101 rfl (fun _=>rfl) ?_
 unfold ir101
 rw [b7]
 unfold T8 at hx
 obtain ⟨b0,b1,b2⟩:=hx
 simp [i6,j3,j9,b8,f6,I8,C3,j5,tx,num,j2]
 refine b6 rfl rfl (.inl rfl) (c4n x.group b0) ?_
 simp [I8,C3,j5,tx,num,j2]
 refine b6 rfl rfl (.inl rfl) (c4m x.peers b1) ?_
 simp [I8,C3,j5,tx,num,j2]
 refine b6 rfl rfl (.inl rfl) (c4l x.queue b2) ?_
 simp [I8,C3,j5,tx,num,j2]
 refine (a31 (id:=2) (n:=6) (rs:=[tx x.group.name,num x.group.age,.list 3 (x.group.targets.map j4),.list 6 (x.peers.map C6),.list 4 (x.queue.items.map j8),.list 1 (x.queue.recent.map tx)]) ?_ ?_ rfl (by omega)).trans ?_
 · simp
 · simp [tx,num]
 · simp [I8,C3,j5,tx,num,j2]
theorem b8n (x:LChannel) (hx:T8 1048576 x):f8 Tryz.prog 105 [.val (j5 x),.val (j5 x)] (.ret (.val (.bool true)) []) []:=by
 refine i7 mixed ok105 rfl (fun _=>rfl) ?_
 unfold ir105
 rw [b7]
 unfold T8 at hx
 obtain ⟨b0,b1,b2⟩:=hx
 simp [i6,j3,j9,b8,f6,I8,C3,j5,tx,num,j2]
 refine b6 rfl rfl (.inl rfl) (c4y x.group b0) ?_
 simp [I8,C3,j5,tx,num,j2]
 refine b6 rfl rfl (.inl rfl) (c4x x.peers b1) ?_
 simp [I8,C3,j5,tx,num,j2]
 refine b6 rfl rfl (.inl rfl) (c4w x.queue b2) ?_
 simp [I8,C3,j5,tx,num,j2]
theorem b6e (l:List LChannel) (left:Int) (h0:0≤left) (h1:left≤1048576) (hx:bdS 9223372036854775807 (T8 9223372036854775807) l):f8 Tryz.prog 46 [.val (.list 6 (l.map j5)),.val (num left)] (.ret (.val (num (cut left (zS J3 l)))) []) []:=by
 refine i7 mixed ok46 rfl (fun _=>rfl) ?_
 unfold ir46
 rw [b7]
 have hl:l.length≤9223372036854775807:=hx.1
 have hw:IntKind.i64.wrap (left - (l.length:Int))=left - l.length:=wrap_i64 (by omega) (by omega)
 have hzs:zS J3 l=l.length+O2 J3 l:=rfl
 by_cases h:left - (l.length:Int) < 0
 · rw [l7 (by omega)]
   simp [i6,j3,j9,b8,f6,num,hw,h]
 · simp [i6,j3,j9,b8,f6,num,hw,h]
   refine l3 (X:=Nat) (fun i=>⟨x5 [(0,.val (.list 6 (l.map j5))),(1,.val (num (left - l.length - (O2 J3 (l.take i):Nat)))),(5,.val (num i))],x4 []⟩) (fun i=>i≤l.length∧0≤left - l.length - (O2 J3 (l.take i):Nat)) (fun i=>l.length - i) 0 (Le.mk _ _ ?_ ?_) ?_ ?_
   · simp [upd,num,O2,PV.kill]
   · simp
   · simp [O2];omega
   · rintro i ⟨hi,hg⟩
     simp [num]
     refine j1 (fun h2=>?_) (fun h2=>?_)
     · have e1:(l.map j5)[i]?.getD .nilptr=j5 l[i]:=by simp [List.getElem?_eq_getElem h2]
       have hsn:O2 J3 (l.take (i+1))=O2 J3 (l.take i)+J3 l[i]:=a29 _ h2
       have hle:=a5j (f:=J3) l (i+1)
       simp [num,h2,e1,I8,C3,j5,tx]
       refine b6 rfl rfl (.inl rfl) (b8k l[i] (left - l.length - (O2 J3 (l.take i):Nat)) (by omega) (by omega) (hx.2 _ (List.getElem_mem h2))) ?_
       by_cases h3:left - (l.length:Int) - (O2 J3 (l.take i):Int) - (J3 l[i]:Int) < 0
       · have c1:cut (left - l.length - (O2 J3 (l.take i):Nat)) (J3 l[i])=-1:=l7 (by omega)
         have c2:cut left (zS J3 l)=-1:=l7 (by omega)
         rw [c1,c2]
         simp [num]
       · have c1:cut (left - l.length - (O2 J3 (l.take i):Nat)) (J3 l[i])=left - l.length - (O2 J3 (l.take i):Nat) - (J3 l[i]:Nat):=I5 (by omega)
         rw [c1]
         simp [num,h3]
         refine LoopNext.mk (i+1) ⟨by omega,by omega⟩ (by omega) (Le.mk _ _ ?_ ?_)
         · simp [num]
           exact ⟨by omega,wrap_i64 (by omega) (by omega)⟩
         · simp
     · have e1:i=l.length:=by omega
       subst e1
       rw [List.take_length] at *
       rw [I5 (by omega)]
       simp [num]
       omega
theorem b6d (l:List LChannel) (hx:bdS 1048576 (T8 1048576) l):f8 Tryz.prog 51 [.val (.list 6 (l.map j5))] (.ret (.val (.list 6 (l.map j5))) []) []:=by
 refine i7 mixed ok51 rfl (fun _=>rfl) ?_
 unfold ir51
 rw [b7]
 have hl:l.length≤1048576:=hx.1
 simp [i6,j3,j9,b8,f6,num,x6]
 refine ⟨by omega,by omega,?_⟩
 refine l3 (X:=Nat) (fun i=>⟨x5 [(0,.val (.list 6 (l.map j5))),(3,.own 7),(4,.val (num i))],x4 [(7,.row 154 6 (a0u j5 (.agg [.str (bs []),.int .i64 0,.list 3 [],.list 6 [],.list 4 [],.list 1 []]) l i))]⟩) (fun i=>i≤l.length) (fun i=>l.length - i) 0 (Le.mk _ _ ?_ ?_) ?_ ?_
 · simp [upd,num,PV.kill]
 · simp [upd,num,bs,a1d]
 · simp
 · intro i hi
   have hlen:=a2l j5 (.agg [.str (bs []),.int .i64 0,.list 3 [],.list 6 [],.list 4 [],.list 1 []]) l i hi
   simp [num,x6]
   refine j1 (fun h1=>?_) (fun h1=>?_)
   · have e1:(l.map j5)[i]?.getD .nilptr=j5 l[i]:=by simp [List.getElem?_eq_getElem h1]
     have e2:=a3v j5 (.agg [.str (bs []),.int .i64 0,.list 3 [],.list 6 [],.list 4 [],.list 1 []]) l i h1
     have e3:=a2k j5 (.agg [.str (bs []),.int .i64 0,.list 3 [],.list 6 [],.list 4 [],.list 1 []]) l i h1
     have e4:(a0u j5 (.agg [.str (bs []),.int .i64 0,.list 3 [],.list 6 [],.list 4 [],.list 1 []]) l i)[i]'(by omega)=(.agg [.str (bs []),.int .i64 0,.list 3 [],.list 6 [],.list 4 [],.list 1 []]):=by
      have h9:=e2
      rw [List.getElem?_eq_getElem (show i < (a0u j5 (.agg [.str (bs []),.int .i64 0,.list 3 [],.list 6 [],.list 4 [],.list 1 []]) l i).length by omega)] at h9
      exact h9
     simp [num,h1,e1,I8,C3,j5,tx,hlen,x6]
     refine b6 rfl rfl (.inl rfl) (b8h l[i] (hx.2 _ (List.getElem_mem h1))) ?_
     simp [num,h1,e1,e2,I8,C3,j5,tx,hlen,x6]
     refine LoopNext.mk (i+1) (by omega) (by omega) (Le.mk _ _ ?_ ?_)
     · simp [num];exact wrap_i64 (by omega) (by omega)
     · rw [← e3]
       simp [I8,C3,j5,num,tx,e4]
   · have e1:i=l.length:=by omega
     subst e1
     simp [num,a2m,a00,PV.pl]
theorem b6f (l:List LChannel) (hx:bdS 1048576 (T8 1048576) l):f8 Tryz.prog 56 [.val (.list 6 (l.map j5)),.val (.list 6 (l.map j5))] (.ret (.val (.bool true)) []) []:=by
 refine i7 mixed ok56 rfl (fun _=>rfl) ?_
 unfold ir56
 rw [b7]
 have hl:l.length≤1048576:=hx.1
 simp [i6,j3,j9,b8,f6,num]
 refine l3 (X:=Nat) (fun i=>⟨x5 [(0,.val (.list 6 (l.map j5))),(1,.val (.list 6 (l.map j5))),(5,.val (num i))],x4 []⟩) (fun i=>i≤l.length) (fun i=>l.length - i) 0 (Le.mk _ _ ?_ ?_) ?_ ?_
 · simp [upd,num,PV.kill]
 · simp
 · simp
 · intro i hi
   simp [num]
   refine j1 (fun h1=>?_) (fun h1=>?_)
   · have e1:(l.map j5)[i]?.getD .nilptr=j5 l[i]:=by simp [List.getElem?_eq_getElem h1]
     simp [num,h1,e1,I8,C3,j5,tx]
     refine b6 rfl rfl (.inl rfl) (b8n l[i] (hx.2 _ (List.getElem_mem h1))) ?_
     simp
     refine LoopNext.mk (i+1) (by omega) (by omega) (Le.mk _ _ ?_ ?_)
     · simp [num];exact wrap_i64 (by omega) (by omega)
     · simp
   · simp
theorem c08 (l:List LEntry) (left:Int) (h0:0≤left) (h1:left≤1048576) (hl:l.length≤9223372036854775807):f8 Tryz.prog 47 [.val (.list 3 (l.map J0)),.val (num left)] (.ret (.val (num (cut left l.length))) []) []:=by
 refine i7 mixed ok47 rfl (fun _=>rfl) ?_
 unfold ir47
 rw [b7]
 have hw:IntKind.i64.wrap (left - (l.length:Int))=left - l.length:=wrap_i64 (by omega) (by omega)
 by_cases h:left - (l.length:Int) < 0
 · rw [l7 (by omega)]
   simp [i6,j3,j9,b8,f6,num,hw,h]
 · rw [I5 (by omega)]
   simp [i6,j3,j9,b8,f6,num,hw,h]
theorem c4o (x:LEntry) (hx:a9g 1048576 x):f8 Tryz.prog 102 [.val (J0 x)] (.ret (.val (J0 x)) []) []:=by
 refine i7 mixed ok102 rfl (fun _=>rfl) ?_
 unfold ir102
 rw [b7]
 simp [i6,j3,j9,b8,f6,J0,tx,num,j2]
 refine (a31 (id:=2) (n:=3) (rs:=[num x.kind,num x.id,num x.at_]) ?_ ?_ rfl (by omega)).trans ?_
 · simp
 · simp [tx,num]
 · simp [J0,tx,num,j2]
theorem c4z (x:LEntry) (hx:a9g 1048576 x):f8 Tryz.prog 106 [.val (J0 x),.val (J0 x)] (.ret (.val (.bool true)) []) []:=by
 refine i7 mixed ok106 rfl (fun _=>rfl) ?_
 unfold ir106
 rw [b7]
 simp [i6,j3,j9,b8,f6,J0,tx,num,j2]
theorem c05 (l:List LEntry) (hx:l.length≤1048576):f8 Tryz.prog 52 [.val (.list 3 (l.map J0))] (.ret (.val (.list 3 (l.map J0))) []) []:=by
 refine i7 mixed ok52 rfl (fun _=>rfl) ?_
 unfold ir52
 rw [b7]
 have hl:l.length≤1048576:=hx
 simp [i6,j3,j9,b8,f6,num,x6]
 refine ⟨by omega,by omega,?_⟩
 refine l3 (X:=Nat) (fun i=>⟨x5 [(0,.val (.list 3 (l.map J0))),(3,.own 7),(4,.val (num i))],x4 [(7,.row 157 3 (a0u J0 (.agg [.int .i64 0,.int .i64 0,.int .i64 0]) l i))]⟩) (fun i=>i≤l.length) (fun i=>l.length - i) 0 (Le.mk _ _ ?_ ?_) ?_ ?_
 · simp [upd,num,PV.kill]
 · simp [upd,num,bs,a1d]
 · simp
 · intro i hi
   have hlen:=a2l J0 (.agg [.int .i64 0,.int .i64 0,.int .i64 0]) l i hi
   simp [num,x6]
   refine j1 (fun h1=>?_) (fun h1=>?_)
   · have e1:(l.map J0)[i]?.getD .nilptr=J0 l[i]:=by simp [List.getElem?_eq_getElem h1]
     have e2:=a3v J0 (.agg [.int .i64 0,.int .i64 0,.int .i64 0]) l i h1
     have e3:=a2k J0 (.agg [.int .i64 0,.int .i64 0,.int .i64 0]) l i h1
     have e4:(a0u J0 (.agg [.int .i64 0,.int .i64 0,.int .i64 0]) l i)[i]'(by omega)=(.agg [.int .i64 0,.int .i64 0,.int .i64 0]):=by
      have h9:=e2
      rw [List.getElem?_eq_getElem (show i < (a0u J0 (.agg [.int .i64 0,.int .i64 0,.int .i64 0]) l i).length by omega)] at h9
      exact h9
     simp [num,h1,e1,J0,tx,hlen,x6]
     refine b6 rfl rfl (.inl rfl) (c4o l[i] trivial) ?_
     simp [num,h1,e1,e2,J0,tx,hlen,x6]
     refine LoopNext.mk (i+1) (by omega) (by omega) (Le.mk _ _ ?_ ?_)
     · simp [num];exact wrap_i64 (by omega) (by omega)
     · rw [← e3]
       simp [J0,num,tx,e4]
   · have e1:i=l.length:=by omega
     subst e1
     simp [num,a2m,a00,PV.pl]
theorem c1b (l:List LEntry) (hx:l.length≤1048576):f8 Tryz.prog 57 [.val (.list 3 (l.map J0)),.val (.list 3 (l.map J0))] (.ret (.val (.bool true)) []) []:=by
 refine i7 mixed ok57 rfl (fun _=>rfl) ?_
 unfold ir57
 rw [b7]
 have hl:l.length≤1048576:=hx
 simp [i6,j3,j9,b8,f6,num]
 refine l3 (X:=Nat) (fun i=>⟨x5 [(0,.val (.list 3 (l.map J0))),(1,.val (.list 3 (l.map J0))),(5,.val (num i))],x4 []⟩) (fun i=>i≤l.length) (fun i=>l.length - i) 0 (Le.mk _ _ ?_ ?_) ?_ ?_
 · simp [upd,num,PV.kill]
 · simp
 · simp
 · intro i hi
   simp [num]
   refine j1 (fun h1=>?_) (fun h1=>?_)
   · have e1:(l.map J0)[i]?.getD .nilptr=J0 l[i]:=by simp [List.getElem?_eq_getElem h1]
     simp [num,h1,e1,J0,tx]
     refine b6 rfl rfl (.inl rfl) (c4z l[i] trivial) ?_
     simp
     refine LoopNext.mk (i+1) (by omega) (by omega) (Le.mk _ _ ?_ ?_)
     · simp [num];exact wrap_i64 (by omega) (by omega)
     · simp
   · simp
theorem c69 (x:LWire) (left:Int) (h0:0≤left) (h1:left≤1048576) (hx:a0t 9223372036854775807 x):f8 Tryz.prog 98 [.val (p8 x),.val (num left)] (.ret (.val (num (cut left (a0m x)))) []) []:=by
 refine i7 mixed ok98 rfl (fun _=>rfl) ?_
 unfold ir98
 rw [b7]
 unfold a0t at hx
 obtain ⟨b0,b1,b2,b3⟩:=hx
 unfold a0m
 have w0:IntKind.i64.wrap (left - ((x.group.length:Nat):Int))=left - ((x.group.length:Nat):Int):=wrap_i64 (by omega) (by omega)
 by_cases k0:left - ((x.group.length:Nat):Int) < 0
 · rw [l7 (by omega)]
   simp [i6,j3,j9,b8,f6,p8,tx,num,b9,j2,w0,k0]
 · skip
   have w1:IntKind.i64.wrap ((left - (x.group.length:Nat)) - ((x.url.length:Nat):Int))=(left - (x.group.length:Nat)) - ((x.url.length:Nat):Int):=wrap_i64 (by omega) (by omega)
   by_cases k1:(left - (x.group.length:Nat)) - ((x.url.length:Nat):Int) < 0
   · rw [l7 (by omega)]
     simp [i6,j3,j9,b8,f6,p8,tx,num,b9,j2,w0,w1,k0,k1]
   · simp [i6,j3,j9,b8,f6,p8,tx,num,b9,j2,w0,w1,k0,k1]
     refine b6 rfl rfl (.inl rfl) (c7d x.ids (left - (x.group.length:Nat) - (x.url.length:Nat)) (by omega) (by omega) b2) ?_
     by_cases k2:(left - (x.group.length:Nat) - (x.url.length:Nat)) - ((x.ids.length:Nat):Int) < 0
     · first | rw [l7 (by omega),l7 (by omega)] | rw [l7 (by omega)]
       simp [p8,tx,num,b9,j2]
     · rw [I5 (show ¬ (left - (x.group.length:Nat) - (x.url.length:Nat)) - ((x.ids.length:Nat):Int) < 0 by omega)]
       simp [p8,tx,num,b9,j2,k0,k1,k2]
       have w3:IntKind.i64.wrap ((left - (x.group.length:Nat) - (x.url.length:Nat) - (x.ids.length:Nat)) - ((x.body.length:Nat):Int))=(left - (x.group.length:Nat) - (x.url.length:Nat) - (x.ids.length:Nat)) - ((x.body.length:Nat):Int):=wrap_i64 (by omega) (by omega)
       by_cases k3:(left - (x.group.length:Nat) - (x.url.length:Nat) - (x.ids.length:Nat)) - ((x.body.length:Nat):Int) < 0
       · rw [l7 (by omega)]
         simp [p8,tx,num,b9,j2,w0,w1,w3,k0,k1,k2,k3]
       · rw [I5 (by omega)]
         simp [p8,tx,num,b9,j2,w0,w1,w3,k0,k1,k2,k3]
         try omega
theorem c65 (x:LWire) (hx:a0t 1048576 x):f8 Tryz.prog 103 [.val (p8 x)] (.ret (.val (p8 x)) []) []:=by
 refine i7 mixed ok103 rfl (fun _=>rfl) ?_
 unfold ir103
 rw [b7]
 unfold a0t at hx
 obtain ⟨b0,b1,b2,b3⟩:=hx
 simp [i6,j3,j9,b8,f6,p8,tx,num,j2]
 refine b6 rfl rfl (.inl rfl) (c68 x.ids b2) ?_
 simp [p8,tx,num,j2]
 refine (a31 (id:=2) (n:=7) (rs:=[num x.at_,num x.status,tx x.group,tx x.url,.list 1 (x.ids.map num),tx x.body,.bool x.lost]) ?_ ?_ rfl (by omega)).trans ?_
 · simp
 · simp [tx,num]
 · simp [p8,tx,num,j2]
theorem c7e (x:LWire) (hx:a0t 1048576 x):f8 Tryz.prog 107 [.val (p8 x),.val (p8 x)] (.ret (.val (.bool true)) []) []:=by
 refine i7 mixed ok107 rfl (fun _=>rfl) ?_
 unfold ir107
 rw [b7]
 unfold a0t at hx
 obtain ⟨b0,b1,b2,b3⟩:=hx
 simp [i6,j3,j9,b8,f6,p8,tx,num,j2]
 refine b6 rfl rfl (.inl rfl) (c7i x.ids b2) ?_
 simp [p8,tx,num,j2]
theorem c4p (l:List LWire) (left:Int) (h0:0≤left) (h1:left≤1048576) (hx:bdS 9223372036854775807 (a0t 9223372036854775807) l):f8 Tryz.prog 48 [.val (.list 7 (l.map p8)),.val (num left)] (.ret (.val (num (cut left (zS a0m l)))) []) []:=by
 refine i7 mixed ok48 rfl (fun _=>rfl) ?_
 unfold ir48
 rw [b7]
 have hl:l.length≤9223372036854775807:=hx.1
 have hw:IntKind.i64.wrap (left - (l.length:Int))=left - l.length:=wrap_i64 (by omega) (by omega)
 have hzs:zS a0m l=l.length+O2 a0m l:=rfl
 by_cases h:left - (l.length:Int) < 0
 · rw [l7 (by omega)]
   simp [i6,j3,j9,b8,f6,num,hw,h]
 · simp [i6,j3,j9,b8,f6,num,hw,h]
   refine l3 (X:=Nat) (fun i=>⟨x5 [(0,.val (.list 7 (l.map p8))),(1,.val (num (left - l.length - (O2 a0m (l.take i):Nat)))),(5,.val (num i))],x4 []⟩) (fun i=>i≤l.length∧0≤left - l.length - (O2 a0m (l.take i):Nat)) (fun i=>l.length - i) 0 (Le.mk _ _ ?_ ?_) ?_ ?_
   · simp [upd,num,O2,PV.kill]
   · simp
   · simp [O2];omega
   · rintro i ⟨hi,hg⟩
     simp [num]
     refine j1 (fun h2=>?_) (fun h2=>?_)
     · have e1:(l.map p8)[i]?.getD .nilptr=p8 l[i]:=by simp [List.getElem?_eq_getElem h2]
       have hsn:O2 a0m (l.take (i+1))=O2 a0m (l.take i)+a0m l[i]:=a29 _ h2
       have hle:=a5j (f:=a0m) l (i+1)
       simp [num,h2,e1,p8,tx]
       refine b6 rfl rfl (.inl rfl) (c69 l[i] (left - l.length - (O2 a0m (l.take i):Nat)) (by omega) (by omega) (hx.2 _ (List.getElem_mem h2))) ?_
       by_cases h3:left - (l.length:Int) - (O2 a0m (l.take i):Int) - (a0m l[i]:Int) < 0
       · have c1:cut (left - l.length - (O2 a0m (l.take i):Nat)) (a0m l[i])=-1:=l7 (by omega)
         have c2:cut left (zS a0m l)=-1:=l7 (by omega)
         rw [c1,c2]
         simp [num]
       · have c1:cut (left - l.length - (O2 a0m (l.take i):Nat)) (a0m l[i])=left - l.length - (O2 a0m (l.take i):Nat) - (a0m l[i]:Nat):=I5 (by omega)
         rw [c1]
         simp [num,h3]
         refine LoopNext.mk (i+1) ⟨by omega,by omega⟩ (by omega) (Le.mk _ _ ?_ ?_)
         · simp [num]
           exact ⟨by omega,wrap_i64 (by omega) (by omega)⟩
         · simp
     · have e1:i=l.length:=by omega
       subst e1
       rw [List.take_length] at *
       rw [I5 (by omega)]
       simp [num]
       omega
theorem c4j (l:List LWire) (hx:bdS 1048576 (a0t 1048576) l):f8 Tryz.prog 53 [.val (.list 7 (l.map p8))] (.ret (.val (.list 7 (l.map p8))) []) []:=by
 refine i7 mixed ok53 rfl (fun _=>rfl) ?_
 unfold ir53
 rw [b7]
 have hl:l.length≤1048576:=hx.1
 simp [i6,j3,j9,b8,f6,num,x6]
 refine ⟨by omega,by omega,?_⟩
 refine l3 (X:=Nat) (fun i=>⟨x5 [(0,.val (.list 7 (l.map p8))),(3,.own 7),(4,.val (num i))],x4 [(7,.row 96 7 (a0u p8 (.agg [.int .i64 0,.int .i64 0,.str (bs []),.str (bs []),.list 1 [],.str (bs []),.bool false]) l i))]⟩) (fun i=>i≤l.length) (fun i=>l.length - i) 0 (Le.mk _ _ ?_ ?_) ?_ ?_
 · simp [upd,num,PV.kill]
 · simp [upd,num,bs,a1d]
 · simp
 · intro i hi
   have hlen:=a2l p8 (.agg [.int .i64 0,.int .i64 0,.str (bs []),.str (bs []),.list 1 [],.str (bs []),.bool false]) l i hi
   simp [num,x6]
   refine j1 (fun h1=>?_) (fun h1=>?_)
   · have e1:(l.map p8)[i]?.getD .nilptr=p8 l[i]:=by simp [List.getElem?_eq_getElem h1]
     have e2:=a3v p8 (.agg [.int .i64 0,.int .i64 0,.str (bs []),.str (bs []),.list 1 [],.str (bs []),.bool false]) l i h1
     have e3:=a2k p8 (.agg [.int .i64 0,.int .i64 0,.str (bs []),.str (bs []),.list 1 [],.str (bs []),.bool false]) l i h1
     have e4:(a0u p8 (.agg [.int .i64 0,.int .i64 0,.str (bs []),.str (bs []),.list 1 [],.str (bs []),.bool false]) l i)[i]'(by omega)=(.agg [.int .i64 0,.int .i64 0,.str (bs []),.str (bs []),.list 1 [],.str (bs []),.bool false]):=by
      have h9:=e2
      rw [List.getElem?_eq_getElem (show i < (a0u p8 (.agg [.int .i64 0,.int .i64 0,.str (bs []),.str (bs []),.list 1 [],.str (bs []),.bool false]) l i).length by omega)] at h9
      exact h9
     simp [num,h1,e1,p8,tx,hlen,x6]
     refine b6 rfl rfl (.inl rfl) (c65 l[i] (hx.2 _ (List.getElem_mem h1))) ?_
     simp [num,h1,e1,e2,p8,tx,hlen,x6]
     refine LoopNext.mk (i+1) (by omega) (by omega) (Le.mk _ _ ?_ ?_)
     · simp [num];exact wrap_i64 (by omega) (by omega)
     · rw [← e3]
       simp [p8,num,tx,e4]
   · have e1:i=l.length:=by omega
     subst e1
     simp [num,a2m,a00,PV.pl]
theorem c4u (l:List LWire) (hx:bdS 1048576 (a0t 1048576) l):f8 Tryz.prog 58 [.val (.list 7 (l.map p8)),.val (.list 7 (l.map p8))] (.ret (.val (.bool true)) []) []:=by
 refine i7 mixed ok58 rfl (fun _=>rfl) ?_
 unfold ir58
 rw [b7]
 have hl:l.length≤1048576:=hx.1
 simp [i6,j3,j9,b8,f6,num]
 refine l3 (X:=Nat) (fun i=>⟨x5 [(0,.val (.list 7 (l.map p8))),(1,.val (.list 7 (l.map p8))),(5,.val (num i))],x4 []⟩) (fun i=>i≤l.length) (fun i=>l.length - i) 0 (Le.mk _ _ ?_ ?_) ?_ ?_
 · simp [upd,num,PV.kill]
 · simp
 · simp
 · intro i hi
   simp [num]
   refine j1 (fun h1=>?_) (fun h1=>?_)
   · have e1:(l.map p8)[i]?.getD .nilptr=p8 l[i]:=by simp [List.getElem?_eq_getElem h1]
     simp [num,h1,e1,p8,tx]
     refine b6 rfl rfl (.inl rfl) (c7e l[i] (hx.2 _ (List.getElem_mem h1))) ?_
     simp
     refine LoopNext.mk (i+1) (by omega) (by omega) (Le.mk _ _ ?_ ?_)
     · simp [num];exact wrap_i64 (by omega) (by omega)
     · simp
   · simp
theorem c7b (x:LPipe) (left:Int) (h0:0≤left) (h1:left≤1048576) (hx:a0y 9223372036854775807 x):f8 Tryz.prog 9 [.val (C5 x),.val (num left)] (.ret (.val (num (cut left (b6u x)))) []) []:=by
 refine i7 mixed ok9 rfl (fun _=>rfl) ?_
 unfold ir9
 rw [b7]
 unfold a0y at hx
 obtain ⟨b0,b1,b2,b3⟩:=hx
 unfold b6u
 simp [i6,j3,j9,b8,f6,l8,C5,tx,num,b9,j2]
 refine b6 rfl rfl (.inl rfl) (b6e x.channels left (by omega) (by omega) b0) ?_
 by_cases k0:left - ((zS J3 x.channels:Nat):Int) < 0
 · first | rw [l7 (by omega),l7 (by omega)] | rw [l7 (by omega)]
   simp [l8,C5,tx,num,b9,j2]
 · rw [I5 (show ¬ left - ((zS J3 x.channels:Nat):Int) < 0 by omega)]
   simp [l8,C5,tx,num,b9,j2,k0]
   refine b6 rfl rfl (.inl rfl) (c07 x.policy (left - (zS J3 x.channels:Nat)) (by omega) (by omega) b1) ?_
   by_cases k1:(left - (zS J3 x.channels:Nat)) - ((a10 x.policy:Nat):Int) < 0
   · first | rw [l7 (by omega),l7 (by omega)] | rw [l7 (by omega)]
     simp [l8,C5,tx,num,b9,j2]
   · rw [I5 (show ¬ (left - (zS J3 x.channels:Nat)) - ((a10 x.policy:Nat):Int) < 0 by omega)]
     simp [l8,C5,tx,num,b9,j2,k0,k1]
     refine b6 rfl rfl (.inl rfl) (c08 x.log (left - (zS J3 x.channels:Nat) - (a10 x.policy:Nat)) (by omega) (by omega) b2) ?_
     by_cases k2:(left - (zS J3 x.channels:Nat) - (a10 x.policy:Nat)) - ((x.log.length:Nat):Int) < 0
     · first | rw [l7 (by omega),l7 (by omega)] | rw [l7 (by omega)]
       simp [l8,C5,tx,num,b9,j2]
     · rw [I5 (show ¬ (left - (zS J3 x.channels:Nat) - (a10 x.policy:Nat)) - ((x.log.length:Nat):Int) < 0 by omega)]
       simp [l8,C5,tx,num,b9,j2,k0,k1,k2]
       refine b6 rfl rfl (.inl rfl) (c4p x.wires (left - (zS J3 x.channels:Nat) - (a10 x.policy:Nat) - (x.log.length:Nat)) (by omega) (by omega) b3) ?_
       by_cases k3:(left - (zS J3 x.channels:Nat) - (a10 x.policy:Nat) - (x.log.length:Nat)) - ((zS a0m x.wires:Nat):Int) < 0
       · first | rw [l7 (by omega),l7 (by omega)] | rw [l7 (by omega)]
         simp [l8,C5,tx,num,b9,j2]
       · first | rw [I5 (by omega),I5 (by omega)] | rw [I5 (by omega)]
         simp [l8,C5,tx,num,b9,j2,k0,k1,k2,k3]
         try omega
theorem b2x (x:LPipe) (hx:a0y 1048576 x):f8 Tryz.prog 11 [.val (C5 x)] (.ret (.val (C5 x)) []) []:=by
 refine i7 mixed ok11 rfl (fun _=>rfl) ?_
 unfold ir11
 rw [b7]
 unfold a0y at hx
 obtain ⟨b0,b1,b2,b3⟩:=hx
 simp [i6,j3,j9,b8,f6,l8,C5,tx,num,j2]
 refine b6 rfl rfl (.inl rfl) (b6d x.channels b0) ?_
 simp [l8,C5,tx,num,j2]
 refine b6 rfl rfl (.inl rfl) (c04 x.policy b1) ?_
 simp [l8,C5,tx,num,j2]
 refine b6 rfl rfl (.inl rfl) (c05 x.log b2) ?_
 simp [l8,C5,tx,num,j2]
 refine b6 rfl rfl (.inl rfl) (c4j x.wires b3) ?_
 simp [l8,C5,tx,num,j2]
 refine (a31 (id:=2) (n:=8) (rs:=[.list 6 (x.channels.map j5),tx x.policy.reportTo,.list 1 (x.policy.uris.map tx),.list 2 (x.policy.rules.map l4),num x.now,num x.next,.list 3 (x.log.map J0),.list 7 (x.wires.map p8)]) ?_ ?_ rfl (by omega)).trans ?_
 · simp
 · simp [tx,num]
 · simp [l8,C5,tx,num,j2]
theorem c7g (x:LPipe) (hx:a0y 1048576 x):f8 Tryz.prog 13 [.val (C5 x),.val (C5 x)] (.ret (.val (.bool true)) []) []:=by
 refine i7 mixed ok13 rfl (fun _=>rfl) ?_
 unfold ir13
 rw [b7]
 unfold a0y at hx
 obtain ⟨b0,b1,b2,b3⟩:=hx
 simp [i6,j3,j9,b8,f6,l8,C5,tx,num,j2]
 refine b6 rfl rfl (.inl rfl) (b6f x.channels b0) ?_
 simp [l8,C5,tx,num,j2]
 refine b6 rfl rfl (.inl rfl) (c1a x.policy b1) ?_
 simp [l8,C5,tx,num,j2]
 refine b6 rfl rfl (.inl rfl) (c1b x.log b2) ?_
 simp [l8,C5,tx,num,j2]
 refine b6 rfl rfl (.inl rfl) (c4u x.wires b3) ?_
 simp [l8,C5,tx,num,j2]
end Go.Proofs
end
section
namespace Go.Proofs
open Go.PW Go.KP
attribute [local simp] RV.cells RV.one PV.cells PV.solid PV.one x6 j2 J4 I7 RV.ofCells elems PV.killL
variable [GF]
theorem b2m (r:LReport) (b1 b2 b3 b4:Bool) (h1:f8 Tryz.prog 108 [.val (.int .i64 r.id),.val (.int .i64 1),.val (.int .i64 1000000)] (.ret (.val (.bool b1)) []) []) (h2:f8 Tryz.prog 108 [.val (.int .i64 r.born),.val (.int .i64 0),.val (.int .i64 1000000)] (.ret (.val (.bool b2)) []) [])
 (h3:f8 Tryz.prog 108 [.val (.int .i64 r.tries),.val (.int .i64 0),.val (.int .i64 3)] (.ret (.val (.bool b3)) []) []) (h4:f8 Tryz.prog 108 [.val (.int .i64 r.body.length),.val (.int .i64 1),.val (.int .i64 8000)] (.ret (.val (.bool b4)) []) []) :
 f8 Tryz.prog 233 [.val (j8 r)] (.ret (.val (.bool (b1 && b2 && b3 && b4))) []) []:=by
 refine i7 mixed ok233 rfl (fun _=>rfl) ?_
 unfold ir233
 rw [b7]
 simp [i6,j3,j9,b8,f6,j8,tx,num,b9]
 refine b6 rfl rfl (.inl rfl) h1 ?_
 cases b1 with
 | false=>simp
 | true=>
  simp [num,b9]
  refine b6 rfl rfl (.inl rfl) h2 ?_
  cases b2 with
  | false=>simp
  | true=>
   simp [num,b9]
   refine b6 rfl rfl (.inl rfl) h3 ?_
   cases b3 with
   | false=>simp
   | true=>
    simp [num,b9]
    refine b6 rfl rfl (.inl rfl) h4 ?_
    cases b4<;>simp
theorem b80 (r:LReport):f8 Tryz.prog 233 [.val (j8 r)] (.ret (.val (.bool (Y9 r))) []) []:=by
 have h:=b2m r _ _ _ _ (U6 .i64 r.id 1 1000000) (U6 .i64 r.born 0 1000000) (U6 .i64 r.tries 0 3) (U6 .i64 r.body.length 1 8000)
 have q:(1≤r.body.length∧r.body.length≤8000)↔((1:Int)≤r.body.length∧(r.body.length:Int)≤8000):=by omega
 unfold Y9
 rw [decide_eq_decide.2 q]
 exact h
theorem c_l08At (l:List LChannel) (name:Tx) (hl:l.length < 1099511627776):f8 Tryz.prog 109 [.val (.list 6 (l.map j5)),.val (tx name)] (.ret (.val (num (a0v l fun r=>decide (r.group.name=name)))) []) []:=by
 refine i7 mixed ok109 rfl (fun _=>rfl) ?_
 unfold ir109
 rw [b7]
 simp [i6,j3,j9,b8,f6,num]
 refine l3 (X:=Nat) (fun i=>⟨x5 [(0,.val (.list 6 (l.map j5))),(1,.val (tx name)),(5,.val (num i))],x4 []⟩) (fun i=>i≤l.length∧∀ k (hk:k < i) (hk':k < l.length),l[k].group.name≠name) (fun i=>l.length - i) 0 (Le.mk _ _ ?_ ?_) ?_ ?_
 · simp [upd,num]
 · simp
 · simp
 · rintro i ⟨hi,hne⟩
   simp [num]
   refine j1 (fun h1=>?_) (fun h1=>?_)
   · have e1:(l.map j5)[i]?.getD .nilptr=j5 l[i]:=by simp [List.getElem?_eq_getElem h1]
     simp [num,h1,e1,j5,tx,I6]
     by_cases hu:l[i].group.name=name
     · have hh:a0v l (fun r=>decide (r.group.name=name))=i:=Z6 h1 (by simp [hu]) (fun k hk=>by simp [hne k hk (by omega)])
       simp [hu,hh,num]
     · simp [hu]
       refine LoopNext.mk (i+1) ⟨by omega,fun k hk hk'=>?_⟩ (by omega) (Le.mk _ _ ?_ ?_)
       · by_cases e:k=i
         · subst e;exact hu
         · exact hne k (by omega) hk'
       · simp [num,tx];exact wrap_i64 (by omega) (by omega)
       · simp
   · have e:i=l.length:=by omega
     have hh:a0v l (fun r=>decide (r.group.name=name))=-1:=Y3 (fun k hk=>by simp [hne k (by omega) hk])
     simp [hh,num]
theorem c_l06OK (q:LQueue) (hb:a14 1048576 q):f8 Tryz.prog 172 [.val (C3 q)] (.ret (.val (.bool (T9 q))) []) []:=by
 refine i7 mixed ok172 rfl (fun _=>rfl) ?_
 unfold ir172
 rw [b7]
 by_cases h5:q.items.length≤5
 rotate_left
 · have h5':(5:Int) < q.items.length:=by omega
   have:T9 q=false:=by unfold T9;rw [decide_eq_false h5];rfl
   simp [i6,j3,j9,b8,f6,C3,h5',this]
 have h5':¬ (5:Int) < q.items.length:=by omega
 by_cases h6:q.recent.length≤6
 rotate_left
 · have h6':(6:Int) < q.recent.length:=by omega
   have:T9 q=false:=by unfold T9;rw [decide_eq_false h6];simp
   simp [i6,j3,j9,b8,f6,C3,h5',h6',this]
 have h6':¬ (6:Int) < q.recent.length:=by omega
 have hfin:Z9 q.items.length (a4j q.items)=true→Z9 q.recent.length (a7i q.recent)=true→T9 q=true:=fun a b=>by
  unfold T9;rw [decide_eq_true h5,decide_eq_true h6,a,b];rfl
 simp [i6,j3,j9,b8,f6,C3,h5',h6']
 refine l3 (X:=Nat) (fun i=>⟨x5 [(1,.ptr 1 0),(3,.val (num i))],x4 [(1,.box [.val (.list 4 (q.items.map j8)),.val (.list 1 (q.recent.map tx))])]⟩) (fun i=>i≤q.items.length∧Z9 i (a4j q.items)=true) (fun i=>q.items.length - i) 0 (Le.mk _ _ ?_ ?_) ?_ ?_
 · simp [upd,num]
 · simp
 · simp [a0x]
 · rintro i ⟨hi,hall⟩
   simp [num]
   refine j1 (fun h1=>?_) (fun h1=>?_)
   · have C2:=a81 (q:=q) h1
     have hsu:=a0l (a4j q.items) i
     rw [hall,Bool.true_and] at hsu
     obtain ⟨r,hr⟩:∃ r,q.items[i]=r:=⟨_,rfl⟩
     have hR:=b80 r
     have wi:IntKind.i64.wrap ((i:Int)+1)=((i+1:Nat):Int):=by rw [wrap_i64 (by omega) (by omega)];omega
     by_cases h0:i=0
     · subst h0
       rw [b14 h1,hr] at C2 hsu
       simp [num,h1,hr,j8,tx]
       refine p7 rfl rfl (.inl rfl) hR ?_
       cases hk:Y9 r with
       | false=>simp [C2 hk]
       | true=>
        simp [num]
        refine LoopNext.mk 1 ⟨by omega,by rw [hsu,hk]⟩ (by omega) (Le.mk _ _ ?_ ?_)
        · simp [num,upd];decide
        · simp [tx]
     · obtain ⟨j,hij⟩:∃ j,i=j+1:=⟨i - 1,by omega⟩
       have hj:j < q.items.length:=by omega
       obtain ⟨s,hs⟩:∃ s,q.items[j]=s:=⟨_,rfl⟩
       have hra:a4j q.items i=(Y9 r && (decide (s.id < r.id) && decide (s.born≤r.born))):=by
        subst hij;rw [b15 h1,hr,hs]
       rw [hra] at C2 hsu
       have wj:IntKind.i64.wrap ((i:Int) - 1)=(j:Int):=by rw [wrap_i64 (by omega) (by omega)];omega
       have hp:0 < i:=by omega
       simp [num,h1,hr,j8,tx]
       refine p7 rfl rfl (.inl rfl) hR ?_
       cases hk:Y9 r with
       | false=>simp [C2 (by rw [hk];rfl)]
       | true=>
        rw [hk,Bool.true_and] at C2 hsu
        by_cases hA:s.id < r.id
        · have hA':¬ r.id≤s.id:=by omega
          by_cases hB:s.born≤r.born
          · have hB':¬ r.born < s.born:=by omega
            simp [num,h1,hr,hs,hj,hp,wj,j8,tx,hA',hB']
            refine LoopNext.mk (i+1) ⟨by omega,by rw [hsu,decide_eq_true hA,decide_eq_true hB];rfl⟩ (by omega) (Le.mk _ _ ?_ ?_)
            · simp [num,wi]
            · simp [tx]
          · have hB':r.born < s.born:=by omega
            simp [num,h1,hr,hs,hj,hp,wj,j8,tx,hA',hB',C2 (by rw [decide_eq_false hB,Bool.and_false])]
        · have hA':r.id≤s.id:=by omega
          simp [num,h1,hr,hs,hj,hp,wj,j8,tx,hA',C2 (by rw [decide_eq_false hA,Bool.false_and])]
   · have e:i=q.items.length:=by omega
     subst e
     simp [num]
     refine l3 (X:=Nat) (fun i=>⟨x5 [(1,.ptr 1 0),(4,.val (num i))],x4 [(1,.box [.val (.list 4 (q.items.map j8)),.val (.list 1 (q.recent.map tx))])]⟩) (fun i=>i≤q.recent.length∧Z9 i (a7i q.recent)=true) (fun i=>q.recent.length - i) 0 (Le.mk _ _ ?_ ?_) ?_ ?_
     · simp [upd,num]
     · simp
     · simp [a0x]
     · rintro i ⟨hi2,hall2⟩
       simp [num]
       refine j1 (fun h1=>?_) (fun h1=>?_)
       · have C2:=a82 (q:=q) h1
         have hsu:=a0l (a7i q.recent) i
         rw [hall2,Bool.true_and] at hsu
         rw [b7f h1] at C2 hsu
         obtain ⟨r,hr⟩:∃ r,q.recent[i]=r:=⟨_,rfl⟩
         rw [hr] at C2 hsu
         have hR:=U6 .i64 r.length 1 8000
         have hq:(1≤r.length∧r.length≤8000)↔((1:Int)≤r.length∧(r.length:Int)≤8000):=by omega
         rw [decide_eq_decide.2 hq] at C2 hsu
         have hH:=b82 (q.recent.take i) r (by simp;omega)
         have wi:IntKind.i64.wrap ((i:Int)+1)=((i+1:Nat):Int):=by rw [wrap_i64 (by omega) (by omega)];omega
         have hile:i≤q.recent.length:=by omega
         simp [num,h1,hr,tx,b9]
         refine p7 rfl rfl (.inl rfl) hR ?_
         cases hk:decide ((1:Int)≤r.length∧(r.length:Int)≤8000) with
         | false=>simp [C2 (by rw [hk];rfl)]
         | true=>
          rw [hk,Bool.true_and] at C2 hsu
          simp [num,h1,hr,tx,hile,← List.map_take]
          refine p7 rfl rfl (.inl rfl) hH ?_
          by_cases hm:r∈q.recent.take i
          · simp [hm,C2 (by rw [decide_eq_false (fun h=>h hm)])]
          · simp [hm]
            refine LoopNext.mk (i+1) ⟨by omega,by rw [hsu,decide_eq_true hm]⟩ (by omega) (Le.mk _ _ ?_ ?_)
            · simp [num,wi]
            · simp [tx]
       · have e:i=q.recent.length:=by omega
         subst e
         simp [hfin hall hall2]
def U9 (p:LPipe):MObj:=.box [.val (.list 6 (p.channels.map j5)),.val (tx p.policy.reportTo),.val (.list 1 (p.policy.uris.map tx)),.val (.list 2 (p.policy.rules.map l4)),.val (num p.now),.val (num p.next),.val (.list 3 (p.log.map J0)),.val (.list 7 (p.wires.map p8))]
def b87 (c:LChannel):MObj:=.box [.val (tx c.group.name),.val (num c.group.age),.val (.list 3 (c.group.targets.map j4)),.val (.list 6 (c.peers.map C6)),.val (.list 4 (c.queue.items.map j8)),.val (.list 1 (c.queue.recent.map tx))]
theorem b6m (p:LPipe) (c:LChannel) (hb:T8 1048576 c):f8 Tryz.prog 110 [.val (C5 p),.val (j5 c)] (.ret (.val (.bool (S3 p.next p.now c))) []) []:=by
 have hO:=c_l03OK c.group hb.1
 have hpl:c.peers.length≤1048576:=hb.2.1.1
 have htl:c.group.targets.length≤1048576:=hb.1.2.1
 have hP:=c_l07OK c.peers (by omega) (fun x hx=>by have:=hb.2.1.2 x hx;unfold a1b V1 at this;omega)
 have hQ:=c_l06OK c.queue hb.2.2
 have hql:c.queue.items.length≤1048576:=hb.2.2.1.1
 refine i7 mixed ok110 rfl (fun _=>rfl) ?_
 unfold ir110
 rw [b7]
 simp [i6,j3,j9,b8,f6,C5,j5,tx,num]
 refine b6 rfl rfl (.inl rfl) hO ?_
 cases hg:a2p c.group with
 | false=>
  have hf:S3 p.next p.now c=false:=by unfold S3;rw [hg];rfl
  simp [hf]
 | true=>
 simp [num]
 refine b6 rfl rfl (.inl rfl) hP ?_
 cases hp:Z5 c.peers with
 | false=>
  have hf:S3 p.next p.now c=false:=by unfold S3;rw [hg,hp];rfl
  simp [hf]
 | true=>
 by_cases hl:c.peers.length=c.group.targets.length
 rotate_left
 · have hf:S3 p.next p.now c=false:=by
    unfold S3
    rw [decide_eq_false (fun h=>hl (by have:=congrArg List.length h;simpa using this))]
    simp
   have hl':¬ ((c.peers.length:Int)=c.group.targets.length):=by omega
   simp [hf,hl,hl']
 simp [num,hl]
 refine b6 rfl rfl (.inl rfl) hQ ?_
 cases hq:T9 c.queue with
 | false=>
  have hf:S3 p.next p.now c=false:=by unfold S3;rw [hq];simp
  simp [hf]
 | true=>
 have hch:S3 p.next p.now c=(decide (c.peers.map (fun p=>p.target)=c.group.targets) && c.queue.items.all fun r=>decide (r.id < p.next) && decide (r.born≤p.now)):=by
  unfold S3;rw [hg,hp,hq];simp
 rw [hch]
 simp [num]
 refine l3 (X:=Nat) (fun i=>⟨x5 [(2,.ptr 2 0),(3,.ptr 3 0),(5,.val (num i))],x4 [(2,U9 p),(3,b87 c)]⟩) (fun i=>i≤c.peers.length∧∀ k,k < i→∀ (h:k < c.peers.length) (h':k < c.group.targets.length),(c.peers[k]).target=c.group.targets[k]) (fun i=>c.peers.length - i) 0 (Le.mk _ _ ?_ ?_) ?_ ?_
 · simp [upd,num,PV.kill]
 · simp [U9,b87,tx,num,MObj.kill,PV.kill]
 · simp
 · rintro i ⟨hi,hall⟩
   simp [num,b87]
   refine j1 (fun h1=>?_) (fun h1=>?_)
   · have h1':i < c.group.targets.length:=by omega
     obtain ⟨x,hx⟩:∃ x,c.peers[i]=x:=⟨_,rfl⟩
     obtain ⟨t,ht⟩:∃ t,c.group.targets[i]=t:=⟨_,rfl⟩
     have wi:IntKind.i64.wrap ((i:Int)+1)=((i+1:Nat):Int):=by rw [wrap_i64 (by omega) (by omega)];omega
     have C2:x.target≠t→(decide (c.peers.map (fun p=>p.target)=c.group.targets) && c.queue.items.all fun r=>decide (r.id < p.next) && decide (r.born≤p.now))=false:=fun hne=>by
      rw [decide_eq_false,Bool.false_and]
      intro he
      apply hne
      have:=congrArg (fun l=>l[i]?) he
      simp [List.getElem?_eq_getElem h1,List.getElem?_eq_getElem h1',hx,ht] at this
      exact this
     by_cases hu:x.target.url=t.url
     · by_cases hp2:x.target.prio=t.prio
       · by_cases hw:x.target.weight=t.weight
         · have hxt:x.target=t:=by
            cases hxx:x.target;cases t
            rw [hxx] at hu hp2 hw
            simp only at hu hp2 hw
            subst hu;subst hp2;subst hw;rfl
           simp [num,h1,h1',hx,ht,C6,j4,tx,N9,a3t,a25,I6,hu,hp2,hw]
           refine LoopNext.mk (i+1) ⟨by omega,fun k hk h h'=>?_⟩ (by omega) (Le.mk _ _ ?_ ?_)
           · by_cases e:k=i
             · subst e;rw [hx,ht];exact hxt
             · exact hall k (by omega) h h'
           · simp [num,wi]
           · simp [b87,U9,tx,num]
         · simp [num,h1,h1',hx,ht,C6,j4,tx,N9,a3t,a25,I6,hu,hp2,hw,C2 (fun e=>hw (by rw [e]))]
       · simp [num,h1,h1',hx,ht,C6,j4,tx,N9,a3t,a25,I6,hu,hp2,C2 (fun e=>hp2 (by rw [e]))]
     · simp [num,h1,h1',hx,ht,C6,j4,tx,N9,a3t,a25,I6,hu,C2 (fun e=>hu (by rw [e]))]
   · have e:i=c.peers.length:=by omega
     subst e
     have heq:c.peers.map (fun p=>p.target)=c.group.targets:=by
      refine List.ext_getElem (by simpa using hl) fun k h h'=>?_
      simp only [List.getElem_map]
      exact hall k (by simpa using h) (by simpa using h) h'
     rw [decide_eq_true heq,Bool.true_and]
     simp [num]
     refine l3 (X:=Nat) (fun i=>⟨x5 [(2,.ptr 2 0),(3,.ptr 3 0),(6,.val (num i))],x4 [(2,U9 p),(3,b87 c)]⟩) (fun i=>i≤c.queue.items.length∧((c.queue.items.take i).all fun r=>decide (r.id < p.next) && decide (r.born≤p.now))=true) (fun i=>c.queue.items.length - i) 0 (Le.mk _ _ ?_ ?_) ?_ ?_
     · simp [upd,num,PV.kill]
     · simp [U9,b87,tx,num,MObj.kill,PV.kill]
     · simp
     · rintro i ⟨hi2,hall2⟩
       simp [num,b87]
       refine j1 (fun h2=>?_) (fun h2=>?_)
       · have hst:((c.queue.items.take (i+1)).all fun r=>decide (r.id < p.next) && decide (r.born≤p.now))=_:=S0 _ _ _ h2
         rw [hall2,Bool.true_and] at hst
         obtain ⟨r,hr⟩:∃ r,c.queue.items[i]=r:=⟨_,rfl⟩
         rw [hr] at hst
         have wi:IntKind.i64.wrap ((i:Int)+1)=((i+1:Nat):Int):=by rw [wrap_i64 (by omega) (by omega)];omega
         have C2:(decide (r.id < p.next) && decide (r.born≤p.now))=false→(c.queue.items.all fun r=>decide (r.id < p.next) && decide (r.born≤p.now))=false:=fun h=>by
          rw [List.all_eq_false]
          exact ⟨r,by rw [← hr];exact List.getElem_mem h2,by rw [h];simp⟩
         by_cases hA:r.id < p.next
         · have hA':¬ p.next≤r.id:=by omega
           by_cases hB:r.born≤p.now
           · have hB':¬ p.now < r.born:=by omega
             simp [num,h2,hr,j8,tx,U9,PV.kill,MObj.kill,hA',hB']
             refine LoopNext.mk (i+1) ⟨by omega,by rw [hst,decide_eq_true hA,decide_eq_true hB];rfl⟩ (by omega) (Le.mk _ _ ?_ ?_)
             · simp [num,wi,PV.kill]
             · simp [b87,U9,MObj.kill,PV.kill,tx,num]
           · have hB':p.now < r.born:=by omega
             simp [num,h2,hr,j8,tx,U9,PV.kill,MObj.kill,hA',hB',C2 (by rw [decide_eq_false hB,Bool.and_false])]
         · have hA':p.next≤r.id:=by omega
           simp [num,h2,hr,j8,tx,U9,PV.kill,MObj.kill,hA',C2 (by rw [decide_eq_false hA,Bool.false_and])]
       · have e:i=c.queue.items.length:=by omega
         subst e
         rw [List.take_length] at hall2
         simp [hall2]
end Go.Proofs
end
section
namespace Go.Proofs
open Go.PW Go.KP
attribute [local simp] RV.cells RV.one PV.cells PV.solid PV.one x6 j2 J4 I7 RV.ofCells elems PV.killL
variable [GF]
def b3s (w:LWire):MObj:=.box [.val (num w.at_),.val (num w.status),.val (tx w.group),.val (tx w.url),.val (.list 1 (w.ids.map num)),.val (tx w.body),.val (.bool w.lost)]
theorem b5x (p:LPipe) (w:LWire) (b1 b2 b3 b5:Bool) (hn:1≤p.next∧p.next≤1000000) (hil:w.ids.length≤1048576) (h1:f8 Tryz.prog 108 [.val (.int .i64 w.at_),.val (.int .i64 0),.val (.int .i64 p.now)] (.ret (.val (.bool b1)) []) [])
 (h2:f8 Tryz.prog 108 [.val (.int .i64 w.status),.val (.int .i64 100),.val (.int .i64 599)] (.ret (.val (.bool b2)) []) []) (h3:f8 Tryz.prog 173 [.val (tx w.group)] (.ret (.val (.bool b3)) []) [])
 (h5:f8 Tryz.prog 108 [.val (.int .i64 w.ids.length),.val (.int .i64 1),.val (.int .i64 3)] (.ret (.val (.bool b5)) []) []) :
 f8 Tryz.prog 111 [.val (C5 p),.val (p8 w)] (.ret (.val (.bool (b1 && b2 && b3 && decide (w.url.length≤100) && b5 && decide (w.body.length≤65536) && Z9 w.ids.length (a4w p.next w.ids)))) []) []:=by
 refine i7 mixed ok111 rfl (fun _=>rfl) ?_
 unfold ir111
 rw [b7]
 simp [i6,j3,j9,b8,f6,C5,p8,tx,num]
 refine b6 rfl rfl (.inl rfl) h1 ?_
 cases b1 with
 | false=>simp
 | true=>
 simp [num]
 refine b6 rfl rfl (.inl rfl) h2 ?_
 cases b2 with
 | false=>simp
 | true=>
 simp [num]
 refine b6 rfl rfl (.inl rfl) h3 ?_
 cases b3 with
 | false=>simp
 | true=>
 by_cases hu:w.url.length≤100
 rotate_left
 · have hu':(100:Int) < w.url.length:=by omega
   simp [num,b9,hu',hu]
 have hu':¬ (100:Int) < w.url.length:=by omega
 simp [num,b9,hu',hu]
 refine b6 rfl rfl (.inl rfl) h5 ?_
 cases b5 with
 | false=>simp
 | true=>
 by_cases hy:w.body.length≤65536
 rotate_left
 · have hy':(65536:Int) < w.body.length:=by omega
   simp [num,b9,hy',hy]
 have hy':¬ (65536:Int) < w.body.length:=by omega
 simp [num,b9,hy',hy]
 have wn:IntKind.i64.wrap (p.next - 1)=p.next - 1:=wrap_i64 (by omega) (by omega)
 refine l3 (X:=Nat) (fun i=>⟨x5 [(2,.ptr 2 0),(3,.ptr 3 0),(5,.val (num i))],x4 [(2,U9 p),(3,b3s w)]⟩) (fun i=>i≤w.ids.length∧Z9 i (a4w p.next w.ids)=true) (fun i=>w.ids.length - i) 0 (Le.mk _ _ ?_ ?_) ?_ ?_
 · simp [upd,num,PV.kill]
 · simp [U9,b3s,tx,num,MObj.kill,PV.kill]
 · simp [a0x]
 · rintro i ⟨hi,hall⟩
   simp [num,b3s]
   refine j1 (fun hlt=>?_) (fun hlt=>?_)
   · have C2:a4w p.next w.ids i=false→Z9 w.ids.length (a4w p.next w.ids)=false:=a3o hlt
     have hsu:=a0l (a4w p.next w.ids) i
     rw [hall,Bool.true_and] at hsu
     obtain ⟨r,hr⟩:∃ r,w.ids[i]=r:=⟨_,rfl⟩
     have hR:=U6 .i64 r 1 (p.next - 1)
     have wi:IntKind.i64.wrap ((i:Int)+1)=((i+1:Nat):Int):=by rw [wrap_i64 (by omega) (by omega)];omega
     by_cases h0:i=0
     · subst h0
       rw [b4j hlt,hr] at C2 hsu
       simp [num,hlt,hr,tx,U9,wn]
       refine p7 rfl rfl (.inl rfl) hR ?_
       cases hk:decide (1≤r∧r≤p.next - 1) with
       | false=>simp [C2 hk]
       | true=>
        simp [num]
        refine LoopNext.mk 1 ⟨by omega,by rw [hsu,hk]⟩ (by omega) (Le.mk _ _ ?_ ?_)
        · simp [num,upd];decide
        · simp [tx,U9,b3s,num]
     · obtain ⟨j,hij⟩:∃ j,i=j+1:=⟨i - 1,by omega⟩
       have hj:j < w.ids.length:=by omega
       obtain ⟨s,hs⟩:∃ s,w.ids[j]=s:=⟨_,rfl⟩
       have hra:a4w p.next w.ids i=(decide (1≤r∧r≤p.next - 1) && decide (s < r)):=by
        subst hij;rw [b4k hlt,hr,hs]
       rw [hra] at C2 hsu
       have wj:IntKind.i64.wrap ((i:Int) - 1)=(j:Int):=by rw [wrap_i64 (by omega) (by omega)];omega
       have hp:0 < i:=by omega
       simp [num,hlt,hr,tx,U9,wn]
       refine p7 rfl rfl (.inl rfl) hR ?_
       cases hk:decide (1≤r∧r≤p.next - 1) with
       | false=>simp [C2 (by rw [hk];rfl)]
       | true=>
        rw [hk,Bool.true_and] at C2 hsu
        by_cases hA:s < r
        · have hA':¬ r≤s:=by omega
          simp [num,hlt,hr,hs,hj,hp,wj,tx,hA']
          refine LoopNext.mk (i+1) ⟨by omega,by rw [hsu,decide_eq_true hA]⟩ (by omega) (Le.mk _ _ ?_ ?_)
          · simp [num,wi]
          · simp [tx,U9,b3s,num]
        · have hA':r≤s:=by omega
          simp [num,hlt,hr,hs,hj,hp,wj,tx,hA',C2 (decide_eq_false hA)]
   · have e:i=w.ids.length:=by omega
     subst e
     simp [hall,hu,hy]
theorem c45 (p:LPipe) (w:LWire) (hn:1≤p.next∧p.next≤1000000) (hb:a0t 1048576 w):f8 Tryz.prog 111 [.val (C5 p),.val (p8 w)] (.ret (.val (.bool (W3 p.next p.now w))) []) []:=by
 have hgl:w.group.length≤1048576:=hb.1
 have hil:w.ids.length≤1048576:=hb.2.2.1
 have q:(1≤w.ids.length∧w.ids.length≤3)↔((1:Int)≤w.ids.length∧(w.ids.length:Int)≤3):=by omega
 unfold W3
 rw [decide_eq_decide.2 q]
 exact b5x p w _ _ _ _ hn hil (U6 .i64 w.at_ 0 p.now) (U6 .i64 w.status 100 599) (a95 w.group (by omega)) (U6 .i64 w.ids.length 1 3)
theorem b8w (p:LPipe) (i:Nat) (h:i < p.channels.length):(a0v p.channels fun c=>decide (c.group.name=(p.channels[i]).group.name))=(i:Int)↔(p.channels[i]).group.name∉(p.channels.map fun c=>c.group.name).take i:=a9w (fun c:LChannel=>c.group.name) p.channels i h
theorem c_l08OK (p:LPipe) (hb:a0y 1048576 p):f8 Tryz.prog 59 [.val (C5 p)] (.ret (.val (.bool (J2 p))) []) []:=by
 have hcl:p.channels.length≤1048576:=hb.1.1
 have hP:=c_l04OK p.policy hb.2.1
 have hN:=U6 .i64 p.now 0 1000000
 have hX:=U6 .i64 p.next 1 1000000
 refine i7 mixed ok59 rfl (fun _=>rfl) ?_
 unfold ir59
 rw [b7]
 by_cases h5:p.channels.length≤5
 rotate_left
 · have h5':(5:Int) < p.channels.length:=by omega
   have hf:J2 p=false:=by unfold J2;rw [decide_eq_false h5];rfl
   simp [i6,j3,j9,b8,f6,C5,tx,num,h5',hf]
 have h5':¬ (5:Int) < p.channels.length:=by omega
 simp [i6,j3,j9,b8,f6,C5,tx,num,h5']
 refine b6 rfl rfl (.inl rfl) hP ?_
 cases hpol:Y2 p.policy with
 | false=>
  have hf:J2 p=false:=by unfold J2;rw [hpol];simp
  simp [hf]
 | true=>
 simp [num]
 refine b6 rfl rfl (.inl rfl) hN ?_
 cases hnow:decide (0≤p.now∧p.now≤1000000) with
 | false=>
  have hf:J2 p=false:=by unfold J2;rw [hnow];simp
  simp [hf]
 | true=>
 simp [num]
 refine b6 rfl rfl (.inl rfl) hX ?_
 cases hnext:decide (1≤p.next∧p.next≤1000000) with
 | false=>
  have hf:J2 p=false:=by unfold J2;rw [hnext];simp
  simp [hf]
 | true=>
 by_cases hll:p.log.length≤4096
 rotate_left
 · have hll':(4096:Int) < p.log.length:=by omega
   have hf:J2 p=false:=by unfold J2;rw [decide_eq_false hll];simp
   simp [num,hll',hf]
 have hll':¬ (4096:Int) < p.log.length:=by omega
 by_cases hwl:p.wires.length≤4096
 rotate_left
 · have hwl':(4096:Int) < p.wires.length:=by omega
   have hf:J2 p=false:=by unfold J2;rw [decide_eq_false hwl];simp
   simp [num,hll',hwl',hf]
 have hwl':¬ (4096:Int) < p.wires.length:=by omega
 have hpk:J2 p=(Z9 p.channels.length (a2u p) && Z9 p.log.length (a3m p.next p.now p.log) && p.wires.all (W3 p.next p.now)):=by
  unfold J2;rw [decide_eq_true h5,hpol,hnow,hnext,decide_eq_true hll,decide_eq_true hwl];simp
 have hn2:1≤p.next∧p.next≤1000000:=of_decide_eq_true hnext
 have wn:IntKind.i64.wrap (p.next - 1)=p.next - 1:=wrap_i64 (by omega) (by omega)
 rw [hpk]
 simp [num,hll',hwl']
 refine l3 (X:=Nat) (fun i=>⟨x5 [(1,.ptr 1 0),(3,.val (num i))],x4 [(1,U9 p)]⟩) (fun i=>i≤p.channels.length∧Z9 i (a2u p)=true) (fun i=>p.channels.length - i) 0 (Le.mk _ _ ?_ ?_) ?_ ?_
 · simp [upd,num,PV.kill]
 · simp [U9,tx,num,MObj.kill,PV.kill]
 · simp [a0x]
 · rintro i ⟨hi,hall⟩
   simp [num,U9]
   refine j1 (fun hlt=>?_) (fun hlt=>?_)
   · have C2:a2u p i=false→(Z9 p.channels.length (a2u p) && Z9 p.log.length (a3m p.next p.now p.log) && p.wires.all (W3 p.next p.now))=false:=fun h=>by rw [a3o hlt h];rfl
     have hsu:=a0l (a2u p) i
     rw [hall,Bool.true_and] at hsu
     rw [b4q hlt] at C2 hsu
     have hnm:=b8w p i hlt
     obtain ⟨c,hc⟩:∃ c,p.channels[i]=c:=⟨_,rfl⟩
     have hbc:T8 1048576 c:=by rw [← hc];exact hb.1.2 _ (List.getElem_mem hlt)
     rw [hc] at C2 hsu hnm
     have hA:=c_l08At p.channels c.group.name (by omega)
     have hC:=b6m p c hbc
     have wi:IntKind.i64.wrap ((i:Int)+1)=((i+1:Nat):Int):=by rw [wrap_i64 (by omega) (by omega)];omega
     simp [num,hlt,hc,j5,tx]
     refine p7 rfl rfl (.inl rfl) hA ?_
     by_cases hu:c.group.name∈(p.channels.map fun c=>c.group.name).take i
     · have hne:¬ (a0v p.channels fun x=>decide (x.group.name=c.group.name))=(i:Int):=fun h=>hnm.1 h hu
       simp [num,hne,C2 (by rw [decide_eq_false (fun h=>h hu),Bool.false_and])]
     · have heq:=hnm.2 hu
       rw [decide_eq_true hu,Bool.true_and] at C2 hsu
       simp [num,heq,hlt,hc,j5,tx]
       refine p7 rfl rfl (.inl rfl) hC ?_
       cases hk:S3 p.next p.now c with
       | false=>simp [C2 hk]
       | true=>
        simp
        refine LoopNext.mk (i+1) ⟨by omega,by rw [hsu,hk]⟩ (by omega) (Le.mk _ _ ?_ ?_)
        · simp [num,wi]
        · simp [tx,U9,num]
   · have e:i=p.channels.length:=by omega
     subst e
     rw [hall,Bool.true_and]
     simp [num]
     refine l3 (X:=Nat) (fun i=>⟨x5 [(1,.ptr 1 0),(4,.val (num i))],x4 [(1,U9 p)]⟩) (fun i=>i≤p.log.length∧Z9 i (a3m p.next p.now p.log)=true) (fun i=>p.log.length - i) 0 (Le.mk _ _ ?_ ?_) ?_ ?_
     · simp [upd,num,PV.kill]
     · simp [U9,tx,num,MObj.kill,PV.kill]
     · simp [a0x]
     · rintro i ⟨hi2,hall2⟩
       simp [num,U9]
       refine j1 (fun hlt=>?_) (fun hlt=>?_)
       · have C2:a3m p.next p.now p.log i=false→(Z9 p.log.length (a3m p.next p.now p.log) && p.wires.all (W3 p.next p.now))=false:=fun h=>by rw [a3o hlt h];rfl
         have hsu:=a0l (a3m p.next p.now p.log) i
         have hlo:=a9c (by omega) hall2
         rw [hall2,Bool.true_and] at hsu
         rw [b24 hlt] at C2 hsu
         obtain ⟨x,hx⟩:∃ x,p.log[i]=x:=⟨_,rfl⟩
         rw [hx] at C2 hsu
         have hK:=U6 .i64 x.kind 1 7
         have hI:=U6 .i64 x.id 1 (p.next - 1)
         have hT:=U6 .i64 x.at_ 0 p.now
         have wi:IntKind.i64.wrap ((i:Int)+1)=((i+1:Nat):Int):=by rw [wrap_i64 (by omega) (by omega)];omega
         simp [num,hlt,hx,J0,tx,PV.kill,MObj.kill]
         refine p7 rfl rfl (.inl rfl) hK ?_
         cases hk:decide (1≤x.kind∧x.kind≤7) with
         | false=>simp [C2 (by rw [hk];rfl)]
         | true=>
         rw [hk,Bool.true_and] at C2 hsu
         simp [num,wn,PV.kill]
         refine p7 rfl rfl (.inl rfl) hI ?_
         cases hid:decide (1≤x.id∧x.id≤p.next - 1) with
         | false=>simp [C2 (by rw [hid];rfl)]
         | true=>
         rw [hid,Bool.true_and] at C2 hsu
         simp [num,wn,PV.kill]
         refine p7 rfl rfl (.inl rfl) hT ?_
         cases hat:decide (0≤x.at_∧x.at_≤p.now) with
         | false=>simp [C2 (decide_eq_false (fun h=>(of_decide_eq_false hat) ⟨by omega,h.2⟩))]
         | true=>
         have hat2:=of_decide_eq_true hat
         by_cases h0:i=0
         · subst h0
           have hl0:a7q p.log 0=0:=rfl
           rw [hl0] at hsu
           simp [num]
           refine LoopNext.mk 1 ⟨by omega,by rw [hsu,hat]⟩ (by omega) (Le.mk _ _ ?_ ?_)
           · simp [num,upd,PV.kill];decide
           · simp [tx,U9,num,PV.kill,MObj.kill]
         · obtain ⟨j,hij⟩:∃ j,i=j+1:=⟨i - 1,by omega⟩
           have hj:j < p.log.length:=by omega
           obtain ⟨y,hy⟩:∃ y,p.log[j]=y:=⟨_,rfl⟩
           have hly:a7q p.log i=y.at_:=by subst hij;rw [a8b hj,hy]
           rw [hly] at C2 hsu
           have wj:IntKind.i64.wrap ((i:Int) - 1)=(j:Int):=by rw [wrap_i64 (by omega) (by omega)];omega
           have hp:0 < i:=by omega
           by_cases hA:x.at_ < y.at_
           · simp [num,hlt,hx,hy,hj,hp,wj,J0,tx,PV.kill,MObj.kill,hA,C2 (decide_eq_false (fun h=>by omega))]
           · simp [num,hlt,hx,hy,hj,hp,wj,J0,tx,PV.kill,MObj.kill,hA]
             refine LoopNext.mk (i+1) ⟨by omega,by rw [hsu];exact decide_eq_true ⟨by omega,hat2.2⟩⟩ (by omega) (Le.mk _ _ ?_ ?_)
             · simp [num,wi,PV.kill]
             · simp [tx,U9,num,PV.kill,MObj.kill]
       · have e:i=p.log.length:=by omega
         subst e
         rw [hall2,Bool.true_and]
         simp [num]
         refine l3 (X:=Nat) (fun i=>⟨x5 [(1,.ptr 1 0),(6,.val (num i))],x4 [(1,U9 p)]⟩) (fun i=>i≤p.wires.length∧(p.wires.take i).all (W3 p.next p.now)=true) (fun i=>p.wires.length - i) 0 (Le.mk _ _ ?_ ?_) ?_ ?_
         · simp [upd,num,PV.kill]
         · simp [U9,tx,num,MObj.kill,PV.kill]
         · simp
         · rintro i ⟨hi3,hall3⟩
           simp [num,U9]
           refine j1 (fun hlt3=>?_) (fun hlt3=>?_)
           · have hst:=S0 p.wires (W3 p.next p.now) i hlt3
             rw [hall3,Bool.true_and] at hst
             obtain ⟨x,hx⟩:∃ x,p.wires[i]=x:=⟨_,rfl⟩
             have hbw:a0t 1048576 x:=by rw [← hx];exact hb.2.2.2.2 _ (List.getElem_mem hlt3)
             rw [hx] at hst
             have hW:=c45 p x hn2 hbw
             have wi:IntKind.i64.wrap ((i:Int)+1)=((i+1:Nat):Int):=by rw [wrap_i64 (by omega) (by omega)];omega
             have C2:W3 p.next p.now x=false→p.wires.all (W3 p.next p.now)=false:=fun h=>List.all_eq_false.2 ⟨x,by rw [← hx];exact List.getElem_mem hlt3,by simp [h]⟩
             simp [num,hlt3,hx,p8,tx]
             refine p7 rfl rfl (.inl rfl) hW ?_
             cases hk:W3 p.next p.now x with
             | false=>simp [C2 hk]
             | true=>
              simp
              refine LoopNext.mk (i+1) ⟨by omega,by rw [hst,hk]⟩ (by omega) (Le.mk _ _ ?_ ?_)
              · simp [num,wi]
              · simp [tx,U9,num]
           · have e:i=p.wires.length:=by omega
             subst e
             rw [List.take_length] at hall3
             simp [hall3]
end Go.Proofs
end
