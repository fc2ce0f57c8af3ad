/- Eh: merged out of KJa, KJb. -/
import Derived.Test.YtapjdgcfakhpaaaGreatDoorCa
import Derived.Test.YtapjdgcfakhpaaaGreatDoorAc
import Derived.Test.YtapjdgcfakhpaaaGreatDoorBa
import Derived.Test.YtapjdgcfakhpaaaGreatDoorEg
set_option linter.unusedSectionVars false
set_option linter.unusedSimpArgs false
set_option linter.unusedVariables false
set_option maxRecDepth 100000
section
namespace Go.Proofs
open Go.PW Go.KP
variable [GF]
end Go.Proofs
end
section
namespace Go.Proofs
open Go.PW Go.KP
attribute [local simp] RV.cells RV.one PV.cells PV.solid PV.one x6 j2 J4 I7 RV.ofCells elems PV.killL
variable [GH]
theorem tdiv100 (n:Int):(n.tdiv 100=2)↔(200≤n∧n≤299):=by
 rcases Int.le_total 0 n with h | h
 · rw [Int.tdiv_eq_ediv_of_nonneg h];omega
 · obtain ⟨m,rfl⟩:∃ m:Int,n=-m:=⟨-n,by omega⟩
   rw [Int.neg_tdiv,Int.tdiv_eq_ediv_of_nonneg (by omega)]
   omega
theorem c44 (w:LWire) (hw:-9223372036854775808≤w.status∧w.status≤9223372036854775807):f8 Tryz.prog 100 [.val (p8 w)] (.ret (.val (.bool (a5w w))) []) []:=by
 have wq:IntKind.i64.wrap (w.status.tdiv 100)=w.status.tdiv 100:=by
  rcases Int.le_total 0 w.status with h | h
  · rw [Int.tdiv_eq_ediv_of_nonneg h];exact wrap_i64 (by omega) (by omega)
  · obtain ⟨m,hm⟩:∃ m:Int,w.status=-m:=⟨-w.status,by omega⟩
    rw [hm,Int.neg_tdiv,Int.tdiv_eq_ediv_of_nonneg (by omega)]
    exact wrap_i64 (by omega) (by omega)
 have e:=tdiv100 w.status
 have w2:IntKind.i64.wrap 2=2:=by decide
 unfold a5w
 by_cases h:200≤w.status∧w.status≤299
 · rw [decide_eq_true h]
   refine i7 mixed ok100 rfl (fun _=>rfl) ?_
   unfold ir100
   rw [b7]
   simp [i6,j3,j9,b8,f6,p8,tx,num,wq,e.2 h,w2]
 · rw [decide_eq_false h]
   have h2:¬ w.status.tdiv 100=2:=fun k=>h (e.1 k)
   refine i7 mixed ok100 rfl (fun _=>rfl) ?_
   unfold ir100
   rw [b7]
   simp [i6,j3,j9,b8,f6,p8,tx,num,wq,h2]
theorem c_l12In (l:List Int) (n:Int) (hl:l.length < 1099511627776):f8 Tryz.prog 99 [.val (.list 1 (l.map num)),.val (num n)] (.ret (.val (.bool (decide (n∈l)))) []) []:=by
 refine i7 mixed ok99 rfl (fun _=>rfl) ?_
 unfold ir99
 rw [b7]
 simp [i6,j3,j9,b8,f6,num]
 refine l3 (X:=Nat) (fun i=>⟨x5 [(0,.val (.list 1 (l.map num))),(1,.val (num n)),(5,.val (num i))],x4 []⟩) (fun i=>i≤l.length∧∀ k (hk:k < i) (hk':k < l.length),l[k]≠n) (fun i=>l.length - i) 0 (Le.mk _ _ ?_ ?_) ?_ ?_
 · simp [upd,num]
 · simp
 · simp
 · rintro i ⟨hi,hne⟩
   simp [num]
   refine j1 (fun h1=>?_) (fun h1=>?_)
   · simp [num,h1]
     by_cases hu:l[i]=n
     · have hm:n∈l:=by rw [← hu];exact List.getElem_mem h1
       simp [hu,hm]
     · simp [hu]
       refine LoopNext.mk (i+1) ⟨by omega,fun k hk hk'=>?_⟩ (by omega) (Le.mk _ _ ?_ ?_)
       · by_cases e:k=i
         · subst e;exact hu
         · exact hne k (by omega) hk'
       · simp [num];exact wrap_i64 (by omega) (by omega)
       · simp
   · have e:i=l.length:=by omega
     have hm:n∉l:=fun h=>by
      obtain ⟨k,hk,he⟩:=List.getElem_of_mem h
      exact hne k (by omega) hk he
     simp [hm]
theorem b3d (p:LPipe) (id:Int) (lost:Bool) (hb:a0y 1048576 p) (hs:∀ w∈p.wires,-9223372036854775808≤w.status∧w.status≤9223372036854775807):f8 Tryz.prog 50 [.val (C5 p),.val (num id),.val (.bool lost)] (.ret (.val (num (X4 lost id p.wires))) []) []:=by
 have hwl:p.wires.length≤1048576:=hb.2.2.2.1
 refine i7 mixed ok50 rfl (fun _=>rfl) ?_
 unfold ir50
 rw [b7]
 simp [i6,j3,j9,b8,f6,C5,tx,num]
 refine l3 (X:=Nat) (fun i=>⟨x5 [(1,.val (num id)),(2,.val (.bool lost)),(3,.ptr 3 0),(7,.val (num (X4 lost id (p.wires.take i)))),(8,.val (num i))],x4 [(3,U9 p)]⟩) (fun i=>i≤p.wires.length) (fun i=>p.wires.length - i) 0 (Le.mk _ _ ?_ ?_) ?_ ?_
 · simp [upd,num,PV.kill,X4]
 · simp [U9,tx,num,MObj.kill,PV.kill]
 · simp
 · intro i hi
   have hcl:X4 lost id (p.wires.take i)≤i:=by
    unfold X4
    refine Nat.le_trans List.countP_le_length ?_
    simp;omega
   simp [num,U9]
   refine j1 (fun h1=>?_) (fun h1=>?_)
   · have hst:=b5w lost id p.wires i h1
     have hsw:=hs _ (List.getElem_mem h1)
     have hbw:=hb.2.2.2.2 _ (List.getElem_mem h1)
     obtain ⟨w,hw⟩:∃ w,p.wires[i]=w:=⟨_,rfl⟩
     rw [hw] at hst hsw hbw
     have hil:w.ids.length≤1048576:=hbw.2.2.1
     have hI:=c_l12In w.ids id (by omega)
     have hG:=c44 w hsw
     have wi:IntKind.i64.wrap ((i:Int)+1)=((i+1:Nat):Int):=by rw [wrap_i64 (by omega) (by omega)];omega
     have wc:IntKind.i64.wrap ((X4 lost id (p.wires.take i):Int)+1)=(X4 lost id (p.wires.take i):Int)+1:=wrap_i64 (by omega) (by omega)
     simp [num,h1,hw,p8,tx,PV.kill,MObj.kill]
     refine b6 rfl rfl (.inl rfl) hI ?_
     cases h2:decide (id∈w.ids) with
     | false=>
      rw [h2] at hst
      simp at hst
      simp
      refine LoopNext.mk (i+1) h1 (by omega) (Le.mk _ _ ?_ ?_)
      · simp [num,wi,PV.kill,hst]
      · simp [tx,U9,num,PV.kill,MObj.kill]
     | true=>
     rw [h2] at hst
     simp [num,tx,PV.kill,MObj.kill]
     refine b6 rfl rfl (.inl rfl) hG ?_
     cases h3:a5w w with
     | false=>
      rw [h3] at hst
      simp at hst
      simp
      refine LoopNext.mk (i+1) h1 (by omega) (Le.mk _ _ ?_ ?_)
      · simp [num,wi,PV.kill,hst]
      · simp [tx,U9,num,PV.kill,MObj.kill]
     | true=>
     rw [h3] at hst
     cases h4:w.lost<;>cases lost<;>(
      rw [h4] at hst
      simp at hst
      simp [num,h4,PV.kill]
      refine LoopNext.mk (i+1) h1 (by omega) (Le.mk _ _ ?_ ?_)
      · simp [num,wi,wc,PV.kill,hst]
      · simp [tx,U9,num,PV.kill,MObj.kill,h4])
   · have e:i=p.wires.length:=by omega
     subst e
     simp [num,List.take_length]
theorem c32 (n:Int):f8 Tryz.prog 104 [.val (num n)] (.ret (.val (.bool (decide (200≤n∧n≤299)))) []) []:=by
 refine i7 mixed ok104 rfl (fun _=>rfl) ?_
 unfold ir104
 rw [b7]
 have h:=R4 n 200 299
 simp [i6,j3,j9,b8,f6,num]
 refine b6 rfl rfl (.inl rfl) h ?_
 simp
theorem b58 (w:LWire):f8 Tryz.prog 55 [.val (p8 w)] (.ret (.val (.bool (a5w w))) []) []:=by
 have h:=c32 w.status
 refine i7 mixed ok55 rfl (fun _=>rfl) ?_
 unfold ir55
 rw [b7]
 simp [i6,j3,j9,b8,f6,p8,tx,num]
 refine b6 rfl rfl (.inl rfl) h ?_
 simp [a5w]
theorem c5r (p:LPipe) (h:J2 p=true):∀ w∈p.wires,-9223372036854775808≤w.status∧w.status≤9223372036854775807:=fun w hw=>by
 unfold J2 at h
 simp only [Bool.and_eq_true,List.all_eq_true] at h
 have h2:=h.2.2 w hw
 unfold W3 at h2
 simp only [Bool.and_eq_true,decide_eq_true_eq] at h2
 omega
end Go.Proofs
end
