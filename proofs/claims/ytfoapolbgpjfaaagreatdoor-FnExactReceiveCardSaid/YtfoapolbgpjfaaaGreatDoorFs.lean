/- Fs: merged out of KXm, KXo, KXba, KXbb, KXbc, KXbd, KXbe, KXbf, KXbg, KXbh, KXbi, KXbj, KXbl, KXbm, KXbn, KXbo, KXbq, KXbs, KXbt, KXbu. -/
import Derived.Test.YtfoapolbgpjfaaaGreatDoorPWw
import Derived.Test.YtfoapolbgpjfaaaGreatDoorCa
import Derived.Test.YtfoapolbgpjfaaaGreatDoorAc
import Derived.Test.YtfoapolbgpjfaaaGreatDoorBa
import Derived.Test.YtfoapolbgpjfaaaGreatDoorFo
import Derived.Test.YtfoapolbgpjfaaaGreatDoorPWae
import Derived.Test.YtfoapolbgpjfaaaGreatDoorPWaf
import Derived.Test.YtfoapolbgpjfaaaGreatDoorPWag
import Derived.Test.YtfoapolbgpjfaaaGreatDoorPWak
import Derived.Test.YtfoapolbgpjfaaaGreatDoorEa
import Derived.Test.YtfoapolbgpjfaaaGreatDoorPWab
import Derived.Test.YtfoapolbgpjfaaaGreatDoorPWai
set_option linter.unusedSectionVars false
set_option linter.unusedSimpArgs false
set_option linter.unusedVariables false
set_option maxRecDepth 100000
section
namespace Go.Proofs
open Go.PW Go.KP
attribute [local simp] RV.cells RV.one PV.cells PV.solid PV.one F7 a6 N5 N7 RV.ofCells elems PV.killL
variable [GF]
theorem b13 (k:Nat) (hk:k < 1099511627776):f9 Tryz.prog 63 [.val (num k)] (.ret (.val (tx (lmk k))) []) []:=by
 refine F4 mixed ok63 rfl (fun _=>rfl) ?_
 unfold ir63
 rw [a8]
 unfold lmk
 by_cases h0:k=0
 · subst h0
   simp [b9,p6,K4,a7,b8,num,tx,bs]
 · have h0':¬ (k:Int)≤0:=by omega
   rw [if_neg h0]
   simp [b9,p6,K4,a7,b8,num,h0',h0]
   refine P0 (X:=Nat×Tx) (fun x=>⟨Q0 [(0,.val (num x.1)),(3,.val (tx x.2))],P6 []⟩) (fun x=>x.1≤k∧x.2.length+x.1≤k∧b2r x.1 x.2=b2r k []) (fun x=>x.1) (k,[]) (Le.mk _ _ ?_ ?_) ⟨Nat.le_refl _,by simp,rfl⟩ ?_
   · simp [upd,num,tx,bs]
   · simp
   · rintro ⟨m,out⟩ ⟨hm,hlen,hF⟩
     simp only at hm hlen hF
     by_cases hz:m=0
     · subst hz
       rw [c2f] at hF
       subst hF
       have hlk:1+(b2r k []).length≤9223372036854775807:=by omega
       simp [num,tx,p8,S6,b7,hlk]
     · have hp:(0:Int) < (m:Int):=by omega
       have hp2:0 < m:=by omega
       rw [c4o hz] at hF
       have g6:(m:Int).tdiv 10=((m / 10:Nat):Int):=by rw [Int.tdiv_eq_ediv_of_nonneg (by omega)];omega
       have g7:(m:Int).tmod 10=((m % 10:Nat):Int):=by rw [Int.tmod_eq_emod_of_nonneg (by omega)];omega
       have ha:m / 10 < m:=Nat.div_lt_self (by omega) (by omega)
       have hb:m % 10 < 10:=Nat.mod_lt _ (by omega)
       have hl10:(UInt8.ofNat (48+m % 10) :: out).length+m / 10≤k:=by simp only [List.length_cons];omega
       have g8:IntKind.i64.wrap ((m / 10:Nat):Int)=((m / 10:Nat):Int):=wrap_i64 (by omega) (by omega)
       have g4:IntKind.i64.wrap (48+((m % 10:Nat):Int))=48+((m % 10:Nat):Int):=wrap_i64 (by omega) (by omega)
       have g5:IntKind.u8.wrap (48+((m % 10:Nat):Int))=48+((m % 10:Nat):Int):=a0j (by omega) (by omega)
       have g9:=c5z (m % 10)
       generalize m / 10=a at *
       generalize m % 10=b at *
       have hsz:1+out.length≤9223372036854775807:=by simp only [List.length_cons] at hl10;omega
       simp [b9,p6,K4,a7,b8,num,tx,hp,hp2,hz,g6,g7,g8,g4,g5,RV.isU8,g9,b7,S6]
       refine ⟨hsz,LoopNext.mk (a,UInt8.ofNat (48+b) :: out) ⟨by omega,hl10,hF⟩ ha (Le.mk _ _ ?_ ?_)⟩
       · simp [num,tx]
       · simp
end Go.Proofs
end
section
namespace Go.Proofs
open Go.PW Go.KP
attribute [local simp] RV.cells RV.one PV.cells PV.solid PV.one F7 a6 N5 N7 RV.ofCells elems PV.killL
variable [GF]
theorem b67 (a b:List Int) (ha:a.length < 1099511627776) (hb:b.length < 1099511627776):f9 Tryz.prog 67 [.val (.list 1 (a.map num)),.val (.list 1 (b.map num))] (.ret (.val (.bool (decide (a=b)))) []) []:=by
 refine F4 mixed ok67 rfl (fun _=>rfl) ?_
 unfold ir67
 rw [a8]
 by_cases hlen:a.length=b.length
 rotate_left
 · have h1:¬ (a.length:Int)=b.length:=by omega
   have h2:a≠b:=fun e=>hlen (by rw [e])
   simp [b9,p6,K4,a7,b8,h1,h2]
 simp [b9,p6,K4,a7,b8,num,hlen]
 refine P0 (X:=Nat) (fun i=>⟨Q0 [(0,.val (.list 1 (a.map num))),(1,.val (.list 1 (b.map num))),(12,.val (num b.length)),(13,.val (num i))],P6 []⟩) (fun i=>i≤b.length∧a.take i=b.take i) (fun i=>b.length - i) 0 (Le.mk _ _ ?_ ?_) ?_ ?_
 · simp [upd,num]
 · simp
 · simp
 · rintro i ⟨hi,heq⟩
   simp [num]
   refine P4 (fun h1b=>?_) (fun h1=>?_)
   · have h1:i < a.length:=by omega
     have e1:(a.map num)[i]?.getD .nilptr=num a[i]:=by simp [List.getElem?_eq_getElem h1]
     have e2:(b.map num)[i]?.getD .nilptr=num b[i]:=by simp [List.getElem?_eq_getElem h1b]
     simp [num,h1,h1b,e1,e2,tx]
     by_cases hu:a[i]=b[i]
     · simp [hu]
       refine LoopNext.mk (i+1) ⟨by omega,?_⟩ (by omega) (Le.mk _ _ ?_ ?_)
       · rw [List.take_add_one,List.take_add_one,List.getElem?_eq_getElem h1,List.getElem?_eq_getElem h1b,heq,hu]
       · simp [num,tx];exact wrap_i64 (by omega) (by omega)
       · simp
     · have h2:a≠b:=fun e=>hu (by subst e;rfl)
       simp [hu,h2]
   · have e:i=b.length:=by omega
     subst e
     rw [← hlen,List.take_length,hlen,List.take_length] at heq
     simp [heq]
theorem c1v {α:Type} {a b:List α} {i:Nat} (h1:i < a.length) (h2:i < b.length) (h:a.take i=b.take i) (he:a[i]=b[i]):a.take (i+1)=b.take (i+1):=by
 rw [List.take_add_one,List.take_add_one,List.getElem?_eq_getElem h1,List.getElem?_eq_getElem h2,h,he]
theorem c3f (a b:List Int) (ha:a.length < 1099511627776) (hb:b.length < 1099511627776):f9 Tryz.prog 65 [.val (.list 1 (a.map num)),.val (.list 1 (b.map num))] (.ret (.val (.bool (decide (a=b)))) []) []:=by
 refine F4 mixed ok65 rfl (fun _=>rfl) ?_
 unfold ir65
 rw [a8]
 by_cases hlen:a.length=b.length
 rotate_left
 · have h1:¬ (a.length:Int)=b.length:=by omega
   have h2:a≠b:=fun e=>hlen (by rw [e])
   simp [b9,p6,K4,a7,b8,h1,h2]
 simp [b9,p6,K4,a7,b8,num,hlen]
 refine P0 (X:=Nat) (fun i=>⟨Q0 [(0,.val (.list 1 (a.map num))),(1,.val (.list 1 (b.map num))),(5,.val (num i))],P6 []⟩) (fun i=>i≤a.length∧a.take i=b.take i) (fun i=>a.length - i) 0 (Le.mk _ _ ?_ ?_) ?_ ?_
 · simp [upd,num]
 · simp
 · simp
 · rintro i ⟨hi,heq⟩
   simp [num]
   refine P4 (fun h1=>?_) (fun h1=>?_)
   · have h1b:i < b.length:=by omega
     have wi:IntKind.i64.wrap ((i:Int)+1)=((i+1:Nat):Int):=by rw [wrap_i64 (by omega) (by omega)];omega
     simp [num,h1,h1b]
     by_cases hu:a[i]=b[i]
     · simp [hu]
       refine LoopNext.mk (i+1) ⟨by omega,c1v h1 h1b heq hu⟩ (by omega) (Le.mk _ _ ?_ ?_)
       · simp [num,wi]
       · simp
     · have h2:a≠b:=fun e=>hu (by subst e;rfl)
       simp [hu,h2]
   · have e:i=a.length:=by omega
     subst e
     rw [List.take_length,hlen,List.take_length] at heq
     simp [heq]
end Go.Proofs
end
section
namespace Go.Proofs
open Go.PW Go.KP
attribute [local simp] RV.cells RV.one PV.cells PV.solid PV.one F7 a6 N5 N7 RV.ofCells elems PV.killL
variable [GF]
end Go.Proofs
end
section
namespace Go.Proofs
open Go.PW Go.KP
attribute [local simp] RV.cells RV.one PV.cells PV.solid PV.one F7 a6 N5 N7 RV.ofCells elems PV.killL
variable [GH]
theorem pOf_bd {x:LJson} (h:(pOf x).2=true):(pOf x).1.body.length≤8000:=by
 unfold pOf at h ⊢
 by_cases hT:c4c x=true
 · rw [if_pos hT] at h ⊢
   unfold b3c pOK at h
   simp only [Bool.and_eq_true,decide_eq_true_eq] at h
   exact h.2.2.1
 · rw [if_neg hT] at h;cases h
theorem b8e (t:Tx):(rpR t).length≤3∧∀ p∈rpR t,p.body.length≤8000:=by
 unfold rpR rp
 split
 · exact ⟨Nat.zero_le _,by simp⟩
 split
 · exact ⟨Nat.zero_le _,by simp⟩
 split
 · exact ⟨Nat.zero_le _,by simp⟩
 split
 · rename_i h3 ha
   refine ⟨by simp;omega,fun p hp=>?_⟩
   obtain ⟨x,hx,rfl⟩:=List.mem_map.1 hp
   exact pOf_bd (List.all_eq_true.1 ha x hx)
 · exact ⟨Nat.zero_le _,by simp⟩
end Go.Proofs
end
section
namespace Go.Proofs
open Go.PW Go.KP
attribute [local simp] RV.cells RV.one PV.cells PV.solid PV.one F7 a6 N5 N7 RV.ofCells elems PV.killL
variable [GH]
def po (w:LWire):List LParcel×Int:=if 65536 < w.body.length∨4096 < w.ids.length then ([],1) else if rpC w.body≠0 then ([],rpC w.body) else if (rpR w.body).map LParcel.id=w.ids then (rpR w.body,0) else ([],16)
def poR (w:LWire):List LParcel:=(po w).1
def poC (w:LWire):Int:=(po w).2
theorem b7x (w:LWire):f9 Tryz.prog 17 [.val (P3 w)] (.ret (.tup [.val (.list 3 ((poR w).map N6)),.val (num (poC w))]) []) []:=by
 refine F4 mixed ok17 rfl (fun _=>rfl) ?_
 obtain ⟨R,hR⟩:∃ R,po w=R:=⟨_,rfl⟩
 unfold poR poC
 rw [hR]
 unfold po at hR
 obtain ⟨Z,hZ⟩:∃ Z,a4s [.t 2,.t 3] (.tup [.val (.list 3 (R.1.map N6)),.val (num R.2)])=Z:=⟨_,rfl⟩
 rw [hZ]
 unfold ir17
 rw [a8]
 by_cases h1:w.body.length≤65536
 · by_cases h2:w.ids.length≤4096
   · have h1':(w.body.length:Int)≤65536:=by omega
     have h1n:¬ (65536:Int) < (w.body.length:Int):=by omega
     have h2':¬ (4096:Int) < (w.ids.length:Int):=by omega
     rw [if_neg (by omega)] at hR
     have hr:=c3c w.body (by omega)
     unfold rpP at hr
     have e:a4x w.body=R1 w.body:=by unfold a4x;rw [if_pos h1]
     have e1:(rp (R1 w.body)).1=rpR w.body:=by unfold rpR;rw [e]
     have e2:(rp (R1 w.body)).2=rpC w.body:=by unfold rpC;rw [e]
     have hbd:=(b8e w.body).1
     rw [e1,e2] at hr
     generalize rpR w.body=L at *
     generalize rpC w.body=c at *
     simp [b9,p6,K4,a7,b8,P3,num,tx,p8,b7,h1',h2',h1,h1n]
     refine T0 rfl rfl (.inl rfl) hr ?_
     simp [num,tx]
     by_cases h3:c=0
     · rw [if_neg (by omega)] at hR
       simp [num,tx,h3]
       refine P0 (X:=Nat) (fun i=>⟨Q0 [(1,.ptr 1 0),(4,.val (.list 3 (L.map N6))),(6,.own 29),(7,.val (num (i:Int)))],P6 [(1,.box [.val (num w.at_),.val (num w.status),.val (tx w.group),.val (tx w.url),.val (.list 1 (w.ids.map num)),.val (tx w.body),.val (.bool w.lost)]),(29,.row 3 1 ((L.take i).map fun x=>num x.id))]⟩)
        (fun i=>i≤L.length) (fun i=>L.length - i) 0 (Le.mk _ _ ?_ ?_) (Nat.zero_le _) ?_
       · simp [num,tx,PV.kill]
       · simp [num,tx,MObj.kill,PV.kill,PV.killL,p8]
       · intro i hi
         have wi:IntKind.i64.wrap ((i:Int)+1)=((i+1:Nat):Int):=by rw [wrap_i64 (by omega) (by omega)];omega
         by_cases h4:i < L.length
         · have hst:(L.take (i+1)).map (fun x=>num x.id)=(L.take i).map (fun x=>num x.id)++[num L[i].id]:=by
            rw [List.take_add_one,List.getElem?_eq_getElem h4,List.map_append];rfl
           obtain ⟨y,hy⟩:∃ y,L[i]=y:=⟨_,rfl⟩
           rw [hy] at hst
           simp [num,tx,h4,hy,N6,elems,a6,RV.one,F7]
           refine ⟨by omega,by omega,?_⟩
           refine LoopNext.mk (i+1) h4 (by omega) (Le.mk _ _ ?_ ?_)
           · simp [num,wi,tx]
           · rw [hst];simp [num,tx,N6]
         · have ei:i=L.length:=by omega
           subst ei
           have hS:=c3f (L.map LParcel.id) w.ids (by simp;omega) (by omega)
           simp [num,tx]
           simp only [List.map_map,Function.comp_def] at hS
           refine d4 rfl rfl (.inr rfl) hS ?_
           by_cases h5:L.map LParcel.id=w.ids
           · obtain rfl:R=(L,0):=by rw [← hR,if_pos h5]
             simp [num,tx,h5]
             rw [← hZ]
             simp [num,O1,PV.pl]
           · obtain rfl:R=([],16):=by rw [← hR,if_neg h5]
             simp [num,tx,h5]
             rw [← hZ]
             simp [num,O1,PV.pl]
     · obtain rfl:R=([],c):=by rw [← hR,if_pos h3]
       simp [num,tx,h3]
       rw [← hZ]
       simp [num,O1,PV.pl]
   · have h1':(w.body.length:Int)≤65536:=by omega
     have h1n:¬ (65536:Int) < (w.body.length:Int):=by omega
     have h2':(4096:Int) < (w.ids.length:Int):=by omega
     obtain rfl:R=([],1):=by rw [← hR,if_pos (by omega)]
     simp [b9,p6,K4,a7,b8,P3,num,tx,p8,b7,h1',h2',h1,h1n]
     rw [← hZ]
     simp [num,O1,PV.pl]
 · have h1':¬ (w.body.length:Int)≤65536:=by omega
   have h1n:(65536:Int) < (w.body.length:Int):=by omega
   obtain rfl:R=([],1):=by rw [← hR,if_pos (by omega)]
   simp [b9,p6,K4,a7,b8,P3,num,tx,p8,b7,h1',h1,h1n]
   rw [← hZ]
   simp [num,O1,PV.pl]
theorem b65 (w:LWire):f9 Tryz.prog 19 [.val (P3 w)] (.ret (.tup [.own 0,.val (num (poC w))]) [⟨94,3,(poR w).map N6⟩]) []:=by
 obtain ⟨R,hR⟩:∃ R,po w=R:=⟨_,rfl⟩
 unfold poR poC
 rw [hR]
 unfold po at hR
 refine a8d (mk:=fun i=>.tup [.own i,.val (num R.2)]) mixed ok19 rfl (fun _=>rfl) ?_
 obtain ⟨Z,hZ⟩:∃ Z,c6a [.t 2,.t 3] (fun i=>.tup [.own i,.val (num R.2)]) 94 3 (R.1.map N6)=Z:=⟨_,rfl⟩
 rw [hZ]
 unfold ir19
 rw [a8]
 by_cases h1:w.body.length≤65536
 · by_cases h2:w.ids.length≤4096
   · have h1':(w.body.length:Int)≤65536:=by omega
     have h1n:¬ (65536:Int) < (w.body.length:Int):=by omega
     have h2':¬ (4096:Int) < (w.ids.length:Int):=by omega
     rw [if_neg (by omega)] at hR
     have hr:=b2v w.body
     have hbd:=(b8e w.body).1
     generalize rpR w.body=L at *
     generalize rpC w.body=c at *
     simp [b9,p6,K4,a7,b8,P3,num,tx,p8,b7,h1',h2',h1,h1n]
     refine a5j rfl rfl rfl (.inl rfl) hr ?_
     simp [num,tx,PV.shift,PV.shiftL,d5]
     by_cases h3:c=0
     · rw [if_neg (by omega)] at hR
       simp [num,tx,h3]
       refine P0 (X:=Nat) (fun i=>⟨Q0 [(1,.ptr 1 0),(4,.own 23000),(29,.own 23000),(30,.val (num L.length)),(6,.own 28),(31,.val (num (i:Int)))],P6 [(1,.box [.val (num w.at_),.val (num w.status),.val (tx w.group),.val (tx w.url),.val (.list 1 (w.ids.map num)),.val (tx w.body),.val (.bool w.lost)]),(23000,.row 94 3 (L.map N6)),(28,.row 3 1 ((L.take i).map fun x=>num x.id))]⟩)
        (fun i=>i≤L.length) (fun i=>L.length - i) 0 (Le.mk _ _ ?_ ?_) (Nat.zero_le _) ?_
       · simp [num,tx,PV.kill]
       · simp [num,tx,MObj.kill,PV.kill,PV.killL,p8]
       · intro i hi
         have wi:IntKind.i64.wrap ((i:Int)+1)=((i+1:Nat):Int):=by rw [wrap_i64 (by omega) (by omega)];omega
         by_cases h4:i < L.length
         · have hst:(L.take (i+1)).map (fun x=>num x.id)=(L.take i).map (fun x=>num x.id)++[num L[i].id]:=by
            rw [List.take_add_one,List.getElem?_eq_getElem h4,List.map_append];rfl
           obtain ⟨y,hy⟩:∃ y,L[i]=y:=⟨_,rfl⟩
           rw [hy] at hst
           simp [num,tx,h4,hy,N6,elems,a6,RV.one,F7]
           refine ⟨by omega,by omega,?_⟩
           refine LoopNext.mk (i+1) h4 (by omega) (Le.mk _ _ ?_ ?_)
           · simp [num,wi,tx]
           · rw [hst];simp [num,tx,N6]
         · have ei:i=L.length:=by omega
           subst ei
           have hS:=b67 (L.map LParcel.id) w.ids (by simp;omega) (by omega)
           simp [num,tx]
           simp only [List.map_map,Function.comp_def] at hS
           refine d4 rfl rfl (.inr rfl) hS ?_
           by_cases h5:L.map LParcel.id=w.ids
           · obtain rfl:R=(L,0):=by rw [← hR,if_pos h5]
             simp [num,tx,h5]
             rw [← hZ]
             simp [num]
             exact b54 23000 (by simp) (by simp) (by simp)
           · obtain rfl:R=([],16):=by rw [← hR,if_neg h5]
             simp [num,tx,h5]
             rw [← hZ]
             simp [num]
             exact V3 3 600 (by omega) (.inl (by omega)) (by omega) (by simp) (by simp)
     · obtain rfl:R=([],c):=by rw [← hR,if_pos h3]
       simp [num,tx,h3]
       rw [← hZ]
       simp [num]
       exact V3 3 600 (by omega) (.inl (by omega)) (by omega) (by simp) (by simp)
   · have h1':(w.body.length:Int)≤65536:=by omega
     have h1n:¬ (65536:Int) < (w.body.length:Int):=by omega
     have h2':(4096:Int) < (w.ids.length:Int):=by omega
     obtain rfl:R=([],1):=by rw [← hR,if_pos (by omega)]
     simp [b9,p6,K4,a7,b8,P3,num,tx,p8,b7,h1',h2',h1,h1n]
     rw [← hZ]
     simp [num]
     exact V3 3 600 (by omega) (.inl (by omega)) (by omega) (by simp) (by simp)
 · have h1':¬ (w.body.length:Int)≤65536:=by omega
   have h1n:(65536:Int) < (w.body.length:Int):=by omega
   obtain rfl:R=([],1):=by rw [← hR,if_pos (by omega)]
   simp [b9,p6,K4,a7,b8,P3,num,tx,p8,b7,h1',h1,h1n]
   rw [← hZ]
   simp [num]
   exact V3 3 600 (by omega) (.inl (by omega)) (by omega) (by simp) (by simp)
theorem b8o (w:LWire):(poR w).length≤3∧∀ p∈poR w,p.body.length≤8000:=by
 unfold poR po
 split
 · exact ⟨Nat.zero_le _,by simp⟩
 split
 · exact ⟨Nat.zero_le _,by simp⟩
 split
 · exact b8e _
 · exact ⟨Nat.zero_le _,by simp⟩
end Go.Proofs
end
section
namespace Go.Proofs
open Go.PW Go.KP
attribute [local simp] RV.cells RV.one PV.cells PV.solid PV.one F7 a6 N5 N7 RV.ofCells elems PV.killL
variable [GF]
theorem b1p (l:List Int) (left:Int) (h0:0≤left) (h1:left≤1048576) (hl:l.length≤9223372036854775807):f9 Tryz.prog 64 [.val (.list 1 (l.map num)),.val (num left)] (.ret (.val (num (cut left l.length))) []) []:=by
 refine F4 mixed ok64 rfl (fun _=>rfl) ?_
 unfold ir64
 rw [a8]
 have hw:IntKind.i64.wrap (left - (l.length:Int))=left - l.length:=wrap_i64 (by omega) (by omega)
 by_cases h:left - (l.length:Int) < 0
 · rw [W2 (by omega)]
   simp [b9,p6,K4,a7,b8,num,hw,h]
 · rw [a2b (by omega)]
   simp [b9,p6,K4,a7,b8,num,hw,h]
theorem b1q (l:List Int) (hx:l.length≤1048576):f9 Tryz.prog 68 [.val (.list 1 (l.map num)),.val (.list 1 (l.map num))] (.ret (.val (.bool true)) []) []:=by
 refine F4 mixed ok68 rfl (fun _=>rfl) ?_
 unfold ir68
 rw [a8]
 have hl:l.length≤1048576:=hx
 simp [b9,p6,K4,a7,b8,num]
 refine P0 (X:=Nat) (fun i=>⟨Q0 [(0,.val (.list 1 (l.map num))),(1,.val (.list 1 (l.map num))),(5,.val (num i))],P6 []⟩) (fun i=>i≤l.length) (fun i=>l.length - i) 0 (Le.mk _ _ ?_ ?_) ?_ ?_
 · simp [upd,num,PV.kill]
 · simp
 · simp
 · intro i hi
   simp [num]
   refine P4 (fun h1=>?_) (fun h1=>?_)
   · have e1:(l.map num)[i]?.getD .nilptr=num l[i]:=by simp [List.getElem?_eq_getElem h1]
     simp [num,h1,e1,tx]
     refine LoopNext.mk (i+1) (by omega) (by omega) (Le.mk _ _ ?_ ?_)
     · simp [num];exact wrap_i64 (by omega) (by omega)
     · simp
   · simp
theorem c5c (x:LWire) (left:Int) (h0:0≤left) (h1:left≤1048576) (hx:a0v 9223372036854775807 x):f9 Tryz.prog 16 [.val (P3 x),.val (num left)] (.ret (.val (num (cut left (a9c x)))) []) []:=by
 refine F4 mixed ok16 rfl (fun _=>rfl) ?_
 unfold ir16
 rw [a8]
 unfold a0v at hx
 obtain ⟨b0,b1,b2,b3⟩:=hx
 unfold a9c
 have w0:IntKind.i64.wrap (left - ((x.group.length:Nat):Int))=left - ((x.group.length:Nat):Int):=wrap_i64 (by omega) (by omega)
 by_cases k0:left - ((x.group.length:Nat):Int) < 0
 · rw [W2 (by omega)]
   simp [b9,p6,K4,a7,b8,P3,tx,num,b7,a6,w0,k0]
 · skip
   have w1:IntKind.i64.wrap ((left - (x.group.length:Nat)) - ((x.url.length:Nat):Int))=(left - (x.group.length:Nat)) - ((x.url.length:Nat):Int):=wrap_i64 (by omega) (by omega)
   by_cases k1:(left - (x.group.length:Nat)) - ((x.url.length:Nat):Int) < 0
   · rw [W2 (by omega)]
     simp [b9,p6,K4,a7,b8,P3,tx,num,b7,a6,w0,w1,k0,k1]
   · simp [b9,p6,K4,a7,b8,P3,tx,num,b7,a6,w0,w1,k0,k1]
     refine d4 rfl rfl (.inl rfl) (b1p x.ids (left - (x.group.length:Nat) - (x.url.length:Nat)) (by omega) (by omega) b2) ?_
     by_cases k2:(left - (x.group.length:Nat) - (x.url.length:Nat)) - ((x.ids.length:Nat):Int) < 0
     · first | rw [W2 (by omega),W2 (by omega)] | rw [W2 (by omega)]
       simp [P3,tx,num,b7,a6]
     · rw [a2b (show ¬ (left - (x.group.length:Nat) - (x.url.length:Nat)) - ((x.ids.length:Nat):Int) < 0 by omega)]
       simp [P3,tx,num,b7,a6,k0,k1,k2]
       have w3:IntKind.i64.wrap ((left - (x.group.length:Nat) - (x.url.length:Nat) - (x.ids.length:Nat)) - ((x.body.length:Nat):Int))=(left - (x.group.length:Nat) - (x.url.length:Nat) - (x.ids.length:Nat)) - ((x.body.length:Nat):Int):=wrap_i64 (by omega) (by omega)
       by_cases k3:(left - (x.group.length:Nat) - (x.url.length:Nat) - (x.ids.length:Nat)) - ((x.body.length:Nat):Int) < 0
       · rw [W2 (by omega)]
         simp [P3,tx,num,b7,a6,w0,w1,w3,k0,k1,k2,k3]
       · rw [a2b (by omega)]
         simp [P3,tx,num,b7,a6,w0,w1,w3,k0,k1,k2,k3]
         try omega
theorem c5d (x:LWire) (hx:a0v 1048576 x):f9 Tryz.prog 20 [.val (P3 x),.val (P3 x)] (.ret (.val (.bool true)) []) []:=by
 refine F4 mixed ok20 rfl (fun _=>rfl) ?_
 unfold ir20
 rw [a8]
 unfold a0v at hx
 obtain ⟨b0,b1,b2,b3⟩:=hx
 simp [b9,p6,K4,a7,b8,P3,tx,num,a6]
 refine d4 rfl rfl (.inl rfl) (b1q x.ids b2) ?_
 simp [P3,tx,num,a6]
end Go.Proofs
end
section
namespace Go.Proofs
open Go.PW Go.KP
attribute [local simp] RV.cells RV.one PV.cells PV.solid PV.one F7 a6 N5 N7 RV.ofCells elems PV.killL
variable [GF]
theorem b2y (l:List Int) (hx:l.length≤1048576):f9 Tryz.prog 66 [.val (.list 1 (l.map num))] (.ret (.own 0) [⟨3,1,l.map num⟩]) []:=by
 refine c1c (mk:=fun i=>.own i) mixed ok66 rfl (fun _=>rfl) ?_
 unfold ir66
 rw [a8]
 have hl:l.length≤1048576:=hx
 simp [b9,p6,K4,a7,b8,num,F7]
 refine ⟨by omega,by omega,?_⟩
 refine P0 (X:=Nat) (fun i=>⟨Q0 [(0,.val (.list 1 (l.map num))),(3,.own 7),(4,.val (num i))],P6 [(7,.row 3 1 (a4u num (.int .i64 0) l i))]⟩) (fun i=>i≤l.length) (fun i=>l.length - i) 0 (Le.mk _ _ ?_ ?_) ?_ ?_
 · simp [upd,num,PV.kill]
 · simp [upd,num,bs,b24]
 · simp
 · intro i hi
   have hlen:=b5o num (.int .i64 0) l i hi
   simp [num,F7]
   refine P4 (fun h1=>?_) (fun h1=>?_)
   · have e1:(l.map num)[i]?.getD .nilptr=num l[i]:=by simp [List.getElem?_eq_getElem h1]
     have e2:=b95 num (.int .i64 0) l i h1
     have e3:=b5n num (.int .i64 0) l i h1
     have e4:(a4u num (.int .i64 0) l i)[i]'(by omega)=(.int .i64 0):=by
      have h9:=e2
      rw [List.getElem?_eq_getElem (show i < (a4u num (.int .i64 0) l i).length by omega)] at h9
      exact h9
     simp [num,h1,e1,tx,hlen,F7]
     refine LoopNext.mk (i+1) (by omega) (by omega) (Le.mk _ _ ?_ ?_)
     · simp [num];exact wrap_i64 (by omega) (by omega)
     · rw [← e3]
       simp [num,tx,e4]
   · have e1:i=l.length:=by omega
     subst e1
     simp [num,b5p,O1,PV.pl]
theorem c2c {K:Kx (PExit→St→Prop)} (xs:List RV) (k i:Nat) (a0:Int) (hi:i < xs.length) (hk:k < 549755813888) (hl:xs.length < 1099511627776) (hx:xs[i]?.getD .nilptr=.int .i64 a0)
 (hn:∀ st':St,st'.env 0=.own 900→st'.env 1=.val (num ((k+1:Nat):Int))→st'.env 5=.val (num ((i+1:Nat):Int))→st'.mem 900=.row 3 1 (xs.set i (num (X8 k)))→K.k .normal st') :
 EC Tryz.prog ir69_l6 ⟨Q0 [(0,.own 900),(1,.val (num k)),(5,.val (num i))],P6 [(900,.row 3 1 xs)]⟩ (K:=K):=by
 unfold ir69_l6
 have s1:IntKind.i64.wrap ((k:Int)+1)=(k:Int)+1:=wrap_i64 (by omega) (by omega)
 have si:IntKind.i64.wrap ((i:Int)+1)=(i:Int)+1:=wrap_i64 (by omega) (by omega)
 have hx':xs[i]=.int .i64 a0:=by rw [← hx];simp [List.getElem?_eq_getElem hi]
 simp [num,hi,hx,s1]
 refine hn _ ?_ ?_ ?_ ?_
 · simp
 · simp only [w9,F2,x5,F0,x6,o0,x4,F1,i6,z8,G0,G3,c8,m7,n0,f5,x7,n9,f8,E9,w8,n8,n7,C7,C8,T5,T6,Option.getD_some,Option.getD_none,B4,p9,l5,C4,l4,j8,C6,j9,C5,C3,C2,G7,u5,k8,C0,u3,k7,B9,B2,C1,u4,B7,j7,u2,B8,G9,G8,B3,B5,k6,B6,u6,k9,A2,i8,B1,B0,A9,G4,u0,j4,A7,t7,j3,A6,A0,A8,t8,A4,i7,t6,A5,G6,G5,A1,s9,j6,A3,u1,j5,I5,I4,J6,I6,J0,I8,I7,J5,I9,J1,J2,J3,J4,y6,y0,x9,K7,K8,K6,F3,q7,D2,u9,J8,o9,O4,L3,K3,M5,M7,M6,O5,O6,H7,H9,H8,I0,I1,M2,v7,M1,D3,D4,D5,v8,T8,E6,w7,O2,O3,H0,K9,L2,Option.map_some,Option.map_none,D6,w5,u7,l6,D0,D1,H2,H1,N2,N1,I3,E7,E8,I2,M8,M9,H3,l8,H4,l7,L6,E5,E4,f7,M4,N0,H6,L7,L9,L8,v6,y9,z7,z6,d6,M3,O8,O7,L4,H5,Q2,L5,l9,D8,D9,w6,D7,d9,s7,d8,s8,d7,J7,N3,N4,y7,y8,F6,F5,C9,K6,s1,num]
   simp
   try omega
 · simp [num,si]
 · simp [hi,hx,hx']
   try simp [s1,X8,num,tx]
theorem a2v (l:List Int) (k:Nat) (hk:k < 8388608) (hl:l.length≤1048576):a8i Tryz.prog 69 (.own 0) 3 1 (l.map num) [.val (num k)] (num ((k+1*l.length:Nat):Int)) ((mkL X8 1 l.length k).map num):=by
 refine b12 mixed ok69 rfl ?_
 unfold ir69
 rw [a8]
 simp [b9,p6,K4,a7,b8,W1,PV.nm,num]
 refine P0 (X:=Nat) (fun i=>⟨Q0 [(0,.own 900),(1,.val (num ((k+1*i:Nat):Int))),(5,.val (num i))],P6 [(900,.row 3 1 ((mkU X8 1 l k i).map num))]⟩) (fun i=>i≤l.length) (fun i=>l.length - i) 0 (Le.mk _ _ ?_ ?_) (Nat.zero_le _) ?_
 · simp [upd,num,PV.kill]
 · simp [b6m]
 · intro i hi
   have hml:=c0p X8 1 l k i hi
   by_cases h1:i < l.length
   · have hmi:i < (mkU X8 1 l k i).length:=by omega
     have hset:=c0o X8 1 l k i h1
     refine c2c ((mkU X8 1 l k i).map num) (k+1*i) i (mkU X8 1 l k i)[i] (by simpa using hmi) (by omega) (by simp;omega) (by simp [List.getElem?_eq_getElem hmi,num]) (fun st' q0 q1 q5 qm=>?_)
     simp
     refine LoopNext.mk (i+1) h1 (by omega) (Le.mk _ _ ?_ ?_)
     · simp [q0,q1,q5,num]
       omega
     · rw [← List.map_set,hset] at qm
       simp [qm]
   · have e:i=l.length:=by omega
     subst e
     unfold ir69_l6
     simp [num,hml,c0q,Z8]
theorem b1m (n k:Nat) (hk:k < 8388608) (hl:n≤1048576):f9 Tryz.prog 75 [.val (.list 1 ((mkL X8 1 n k).map num)),.val (num k)] (.ret (.val (num ((k+1*n:Nat):Int))) []) []:=by
 refine F4 mixed ok75 rfl (fun _=>rfl) ?_
 unfold ir75
 rw [a8]
 have hlen:=Z8 X8 1 n k
 simp [b9,p6,K4,a7,b8,num]
 refine P0 (X:=Nat) (fun i=>⟨Q0 [(0,.val (.list 1 ((mkL X8 1 n k).map num))),(1,.val (num ((k+1*i:Nat):Int))),(5,.val (num i))],P6 []⟩) (fun i=>i≤n) (fun i=>n - i) 0 (Le.mk _ _ ?_ ?_) (Nat.zero_le _) ?_
 · simp [upd,num,PV.kill]
 · simp
 · intro i hi
   unfold ir75_l6
   by_cases h1:i < n
   · have hi':i < (mkL X8 1 n k).length:=by omega
     have hat:(mkL X8 1 n k)[i]=X8 (k+1*i):=c4i h1
     have e1:((mkL X8 1 n k).map num)[i]?.getD .nilptr=num (X8 (k+1*i)):=by simp [List.getElem?_eq_getElem hi',hat]
     generalize hj:k+1*i=j at *
     have hjj:j < 1099511627776:=by omega
     have s1:IntKind.i64.wrap ((j:Int)+1)=((j+1:Nat):Int):=by rw [wrap_i64 (by omega) (by omega)];omega
     have si:IntKind.i64.wrap ((i:Int)+1)=((i+1:Nat):Int):=by rw [wrap_i64 (by omega) (by omega)];omega
     have hat2:X8 j=(j:Int):=rfl
     simp [num,Z8,h1,e1,hat,hat2,tx,s1,si]
     refine LoopNext.mk (i+1) h1 (by omega) (Le.mk _ _ ?_ ?_)
     · simp [num,s1,si]
       omega
     · simp
   · have e:i=n:=by omega
     subst e
     simp [num,Z8]
theorem a82 (l:List Tx) (hx:bdS 1048576 (fun t=>t.length≤1048576) l):f9 Tryz.prog 81 [.val (.list 1 (l.map tx))] (.ret (.own 0) [⟨9,1,l.map tx⟩]) []:=by
 refine c1c (mk:=fun i=>.own i) mixed ok81 rfl (fun _=>rfl) ?_
 unfold ir81
 rw [a8]
 have hl:l.length≤1048576:=hx.1
 simp [b9,p6,K4,a7,b8,num,F7]
 refine ⟨by omega,by omega,?_⟩
 refine P0 (X:=Nat) (fun i=>⟨Q0 [(0,.val (.list 1 (l.map tx))),(3,.own 7),(4,.val (num i))],P6 [(7,.row 9 1 (a4u tx (.str (bs [])) l i))]⟩) (fun i=>i≤l.length) (fun i=>l.length - i) 0 (Le.mk _ _ ?_ ?_) ?_ ?_
 · simp [upd,num,PV.kill]
 · simp [upd,num,bs,b24]
 · simp
 · intro i hi
   have hlen:=b5o tx (.str (bs [])) l i hi
   simp [num,F7]
   refine P4 (fun h1=>?_) (fun h1=>?_)
   · have e1:(l.map tx)[i]?.getD .nilptr=tx l[i]:=by simp [List.getElem?_eq_getElem h1]
     have e2:=b95 tx (.str (bs [])) l i h1
     have e3:=b5n tx (.str (bs [])) l i h1
     have e4:(a4u tx (.str (bs [])) l i)[i]'(by omega)=(.str (bs [])):=by
      have h9:=e2
      rw [List.getElem?_eq_getElem (show i < (a4u tx (.str (bs [])) l i).length by omega)] at h9
      exact h9
     simp [num,h1,e1,tx,hlen,F7]
     refine LoopNext.mk (i+1) (by omega) (by omega) (Le.mk _ _ ?_ ?_)
     · simp [num];exact wrap_i64 (by omega) (by omega)
     · rw [← e3]
       simp [num,tx,e4]
   · have e1:i=l.length:=by omega
     subst e1
     simp [num,b5p,O1,PV.pl]
theorem c2b {K:Kx (PExit→St→Prop)} (xs:List RV) (k i:Nat) (a0:ByteArray) (hi:i < xs.length) (hk:k < 549755813888) (hl:xs.length < 1099511627776) (hx:xs[i]?.getD .nilptr=.str a0)
 (hn:∀ st':St,st'.env 0=.own 900→st'.env 1=.val (num ((k+1:Nat):Int))→st'.env 5=.val (num ((i+1:Nat):Int))→st'.mem 900=.row 9 1 (xs.set i (tx (lmk k)))→K.k .normal st') :
 EC Tryz.prog ir74_l6 ⟨Q0 [(0,.own 900),(1,.val (num k)),(5,.val (num i))],P6 [(900,.row 9 1 xs)]⟩ (K:=K):=by
 unfold ir74_l6
 have s1:IntKind.i64.wrap ((k:Int)+1)=(k:Int)+1:=wrap_i64 (by omega) (by omega)
 have hmk0:f9 Tryz.prog 63 [.val (.int .i64 ((k:Int)))] (.ret (.val (.str (bs (lmk (k+0))))) []) []:=by
  have h:=b13 (k+0) (by omega)
  exact h
 have si:IntKind.i64.wrap ((i:Int)+1)=(i:Int)+1:=wrap_i64 (by omega) (by omega)
 have hx':xs[i]=.str a0:=by rw [← hx];simp [List.getElem?_eq_getElem hi]
 simp [num,hi]
 refine d4 rfl rfl (.inl rfl) hmk0 ?_
 simp [num,hi,hx,tx,s1]
 refine hn _ ?_ ?_ ?_ ?_
 · simp
 · simp only [w9,F2,x5,F0,x6,o0,x4,F1,i6,z8,G0,G3,c8,m7,n0,f5,x7,n9,f8,E9,w8,n8,n7,C7,C8,T5,T6,Option.getD_some,Option.getD_none,B4,p9,l5,C4,l4,j8,C6,j9,C5,C3,C2,G7,u5,k8,C0,u3,k7,B9,B2,C1,u4,B7,j7,u2,B8,G9,G8,B3,B5,k6,B6,u6,k9,A2,i8,B1,B0,A9,G4,u0,j4,A7,t7,j3,A6,A0,A8,t8,A4,i7,t6,A5,G6,G5,A1,s9,j6,A3,u1,j5,I5,I4,J6,I6,J0,I8,I7,J5,I9,J1,J2,J3,J4,y6,y0,x9,K7,K8,K6,F3,q7,D2,u9,J8,o9,O4,L3,K3,M5,M7,M6,O5,O6,H7,H9,H8,I0,I1,M2,v7,M1,D3,D4,D5,v8,T8,E6,w7,O2,O3,H0,K9,L2,Option.map_some,Option.map_none,D6,w5,u7,l6,D0,D1,H2,H1,N2,N1,I3,E7,E8,I2,M8,M9,H3,l8,H4,l7,L6,E5,E4,f7,M4,N0,H6,L7,L9,L8,v6,y9,z7,z6,d6,M3,O8,O7,L4,H5,Q2,L5,l9,D8,D9,w6,D7,d9,s7,d8,s8,d7,J7,N3,N4,y7,y8,F6,F5,C9,K6,s1,num]
   simp
   try omega
 · simp [num,si]
 · simp [hi,hx,hx']
   try simp [s1,num,tx]
theorem a6r (l:List Tx) (k:Nat) (hk:k < 8388608) (hl:l.length≤1048576):a8i Tryz.prog 74 (.own 0) 9 1 (l.map tx) [.val (num k)] (num ((k+1*l.length:Nat):Int)) ((mkL lmk 1 l.length k).map tx):=by
 refine b12 mixed ok74 rfl ?_
 unfold ir74
 rw [a8]
 simp [b9,p6,K4,a7,b8,W1,PV.nm,num]
 refine P0 (X:=Nat) (fun i=>⟨Q0 [(0,.own 900),(1,.val (num ((k+1*i:Nat):Int))),(5,.val (num i))],P6 [(900,.row 9 1 ((mkU lmk 1 l k i).map tx))]⟩) (fun i=>i≤l.length) (fun i=>l.length - i) 0 (Le.mk _ _ ?_ ?_) (Nat.zero_le _) ?_
 · simp [upd,num,PV.kill]
 · simp [b6m]
 · intro i hi
   have hml:=c0p lmk 1 l k i hi
   by_cases h1:i < l.length
   · have hmi:i < (mkU lmk 1 l k i).length:=by omega
     have hset:=c0o lmk 1 l k i h1
     refine c2b ((mkU lmk 1 l k i).map tx) (k+1*i) i (bs (mkU lmk 1 l k i)[i]) (by simpa using hmi) (by omega) (by simp;omega) (by simp [List.getElem?_eq_getElem hmi,tx]) (fun st' q0 q1 q5 qm=>?_)
     simp
     refine LoopNext.mk (i+1) h1 (by omega) (Le.mk _ _ ?_ ?_)
     · simp [q0,q1,q5,num]
       omega
     · rw [← List.map_set,hset] at qm
       simp [qm]
   · have e:i=l.length:=by omega
     subst e
     unfold ir74_l6
     simp [num,hml,c0q,Z8]
theorem b2w (n k:Nat) (hk:k < 8388608) (hl:n≤1048576):f9 Tryz.prog 76 [.val (.list 1 ((mkL lmk 1 n k).map tx)),.val (num k)] (.ret (.val (num ((k+1*n:Nat):Int))) []) []:=by
 refine F4 mixed ok76 rfl (fun _=>rfl) ?_
 unfold ir76
 rw [a8]
 have hlen:=Z8 lmk 1 n k
 simp [b9,p6,K4,a7,b8,num]
 refine P0 (X:=Nat) (fun i=>⟨Q0 [(0,.val (.list 1 ((mkL lmk 1 n k).map tx))),(1,.val (num ((k+1*i:Nat):Int))),(5,.val (num i))],P6 []⟩) (fun i=>i≤n) (fun i=>n - i) 0 (Le.mk _ _ ?_ ?_) (Nat.zero_le _) ?_
 · simp [upd,num,PV.kill]
 · simp
 · intro i hi
   unfold ir76_l6
   by_cases h1:i < n
   · have hi':i < (mkL lmk 1 n k).length:=by omega
     have hat:(mkL lmk 1 n k)[i]=lmk (k+1*i):=c4i h1
     have e1:((mkL lmk 1 n k).map tx)[i]?.getD .nilptr=tx (lmk (k+1*i)):=by simp [List.getElem?_eq_getElem hi',hat]
     generalize hj:k+1*i=j at *
     have hjj:j < 1099511627776:=by omega
     have s1:IntKind.i64.wrap ((j:Int)+1)=((j+1:Nat):Int):=by rw [wrap_i64 (by omega) (by omega)];omega
     have si:IntKind.i64.wrap ((i:Int)+1)=((i+1:Nat):Int):=by rw [wrap_i64 (by omega) (by omega)];omega
     have hmk0:f9 Tryz.prog 63 [.val (.int .i64 ((j+0:Nat):Int))] (.ret (.val (.str (bs (lmk (j+0))))) []) []:=b13 (j+0) (by omega)
     simp [num,Z8,h1,e1,hat,tx,s1,si]
     refine R9 rfl rfl (.inl rfl) hmk0 ?_
     simp [num,Z8,h1,e1,hat,tx,s1,si]
     refine LoopNext.mk (i+1) h1 (by omega) (Le.mk _ _ ?_ ?_)
     · simp [num,s1,si]
       omega
     · simp
   · have e:i=n:=by omega
     subst e
     simp [num,Z8]
end Go.Proofs
end
section
namespace Go.Proofs
open Go.PW Go.KP
attribute [local simp] RV.cells RV.one PV.cells PV.solid PV.one F7 a6 N5 N7 RV.ofCells elems PV.killL
variable [GF]
theorem b7c (l:List Tx) (left:Int) (h0:0≤left) (h1:left≤1048576) (hx:bdS 9223372036854775807 (fun t=>t.length≤9223372036854775807) l):f9 Tryz.prog 77 [.val (.list 1 (l.map tx)),.val (num left)] (.ret (.val (num (cut left (zS List.length l)))) []) []:=by
 refine F4 mixed ok77 rfl (fun _=>rfl) ?_
 unfold ir77
 rw [a8]
 have hl:l.length≤9223372036854775807:=hx.1
 have hw:IntKind.i64.wrap (left - (l.length:Int))=left - l.length:=wrap_i64 (by omega) (by omega)
 have hzs:zS List.length l=l.length+a4a List.length l:=rfl
 by_cases h:left - (l.length:Int) < 0
 · rw [W2 (by omega)]
   simp [b9,p6,K4,a7,b8,num,hw,h]
 · simp [b9,p6,K4,a7,b8,num,hw,h]
   refine P0 (X:=Nat) (fun i=>⟨Q0 [(0,.val (.list 1 (l.map tx))),(1,.val (num (left - l.length - (a4a List.length (l.take i):Nat)))),(5,.val (num i))],P6 []⟩) (fun i=>i≤l.length∧0≤left - l.length - (a4a List.length (l.take i):Nat)) (fun i=>l.length - i) 0 (Le.mk _ _ ?_ ?_) ?_ ?_
   · simp [upd,num,a4a,PV.kill]
   · simp
   · simp [a4a];omega
   · rintro i ⟨hi,hg⟩
     simp [num]
     refine P4 (fun h2=>?_) (fun h2=>?_)
     · have e1:(l.map tx)[i]?.getD .nilptr=tx l[i]:=by simp [List.getElem?_eq_getElem h2]
       have hsn:a4a List.length (l.take (i+1))=a4a List.length (l.take i)+List.length l[i]:=c2e _ h2
       have hle:=lsum_le (f:=List.length) l (i+1)
       have hxi:l[i].length≤9223372036854775807:=hx.2 _ (List.getElem_mem h2)
       have hw2:IntKind.i64.wrap (left - (l.length:Int) - (a4a List.length (l.take i):Int) - (l[i].length:Int))=left - (l.length:Int) - (a4a List.length (l.take i):Int) - (l[i].length:Int):=wrap_i64 (by omega) (by omega)
       by_cases h3:left - (l.length:Int) - (a4a List.length (l.take i):Int) - (l[i].length:Int) < 0
       · rw [W2 (by omega)]
         simp [num,h2,e1,tx,b7,hw2,h3]
       · simp [num,h2,e1,tx,b7,hw2,h3]
         refine LoopNext.mk (i+1) ⟨by omega,by omega⟩ (by omega) (Le.mk _ _ ?_ ?_)
         · simp [num]
           exact ⟨by omega,wrap_i64 (by omega) (by omega)⟩
         · simp
     · have e1:i=l.length:=by omega
       subst e1
       rw [List.take_length] at *
       rw [a2b (by omega)]
       simp [num]
       omega
theorem b7d (l:List Tx) (hx:bdS 1048576 (fun t=>t.length≤1048576) l):f9 Tryz.prog 73 [.val (.list 1 (l.map tx)),.val (.list 1 (l.map tx))] (.ret (.val (.bool true)) []) []:=by
 refine F4 mixed ok73 rfl (fun _=>rfl) ?_
 unfold ir73
 rw [a8]
 have hl:l.length≤1048576:=hx.1
 simp [b9,p6,K4,a7,b8,num]
 refine P0 (X:=Nat) (fun i=>⟨Q0 [(0,.val (.list 1 (l.map tx))),(1,.val (.list 1 (l.map tx))),(5,.val (num i))],P6 []⟩) (fun i=>i≤l.length) (fun i=>l.length - i) 0 (Le.mk _ _ ?_ ?_) ?_ ?_
 · simp [upd,num,PV.kill]
 · simp
 · simp
 · intro i hi
   simp [num]
   refine P4 (fun h1=>?_) (fun h1=>?_)
   · have e1:(l.map tx)[i]?.getD .nilptr=tx l[i]:=by simp [List.getElem?_eq_getElem h1]
     simp [num,h1,e1,tx]
     refine LoopNext.mk (i+1) (by omega) (by omega) (Le.mk _ _ ?_ ?_)
     · simp [num];exact wrap_i64 (by omega) (by omega)
     · simp
   · simp
theorem g_szBox (x:LBox) (left:Int) (h0:0≤left) (h1:left≤1048576) (hx:a16 9223372036854775807 x):f9 Tryz.prog 31 [.val (O9 x),.val (num left)] (.ret (.val (num (cut left (b2k x)))) []) []:=by
 refine F4 mixed ok31 rfl (fun _=>rfl) ?_
 unfold ir31
 rw [a8]
 unfold a16 at hx
 obtain ⟨b0,b1,b2⟩:=hx
 unfold b2k
 simp [b9,p6,K4,a7,b8,O9,tx,num,b7,a6]
 refine d4 rfl rfl (.inl rfl) (b1p x.ids left (by omega) (by omega) b0) ?_
 by_cases k0:left - ((x.ids.length:Nat):Int) < 0
 · first | rw [W2 (by omega),W2 (by omega)] | rw [W2 (by omega)]
   simp [O9,tx,num,b7,a6]
 · rw [a2b (show ¬ left - ((x.ids.length:Nat):Int) < 0 by omega)]
   simp [O9,tx,num,b7,a6,k0]
   refine d4 rfl rfl (.inl rfl) (b1p x.times (left - (x.ids.length:Nat)) (by omega) (by omega) b1) ?_
   by_cases k1:(left - (x.ids.length:Nat)) - ((x.times.length:Nat):Int) < 0
   · first | rw [W2 (by omega),W2 (by omega)] | rw [W2 (by omega)]
     simp [O9,tx,num,b7,a6]
   · rw [a2b (show ¬ (left - (x.ids.length:Nat)) - ((x.times.length:Nat):Int) < 0 by omega)]
     simp [O9,tx,num,b7,a6,k0,k1]
     refine d4 rfl rfl (.inl rfl) (b7c x.bodies (left - (x.ids.length:Nat) - (x.times.length:Nat)) (by omega) (by omega) b2) ?_
     by_cases k2:(left - (x.ids.length:Nat) - (x.times.length:Nat)) - ((zS List.length x.bodies:Nat):Int) < 0
     · first | rw [W2 (by omega),W2 (by omega)] | rw [W2 (by omega)]
       simp [O9,tx,num,b7,a6]
     · first | rw [a2b (by omega),a2b (by omega)] | rw [a2b (by omega)]
       simp [O9,tx,num,b7,a6,k0,k1,k2]
       try omega
theorem c1a (x:LBox) (hx:a16 1048576 x):f9 Tryz.prog 26 [.val (O9 x),.val (O9 x)] (.ret (.val (.bool true)) []) []:=by
 refine F4 mixed ok26 rfl (fun _=>rfl) ?_
 unfold ir26
 rw [a8]
 unfold a16 at hx
 obtain ⟨b0,b1,b2⟩:=hx
 simp [b9,p6,K4,a7,b8,O9,tx,num,a6]
 refine d4 rfl rfl (.inl rfl) (b1q x.ids b0) ?_
 simp [O9,tx,num,a6]
 refine d4 rfl rfl (.inl rfl) (b1q x.times b1) ?_
 simp [O9,tx,num,a6]
 refine d4 rfl rfl (.inl rfl) (b7d x.bodies b2) ?_
 simp [O9,tx,num,a6]
end Go.Proofs
end
section
namespace Go.Proofs
open Go.PW Go.KP
attribute [local simp] RV.cells RV.one PV.cells PV.solid PV.one F7 a6 N5 N7 RV.ofCells elems PV.killL
variable [GF]
attribute [local simp] a4q a9w b6i b6j b6g b6h a13 b1w a67 b74 b2i b2j a7m
theorem a5b {α:Type} {f:α→RV} (h:∀ x,(f x).flat=true) (l:List α):∀ x∈l.map f,x.flat=true:=fun x hx=>by
 obtain ⟨y,_,rfl⟩:=List.mem_map.1 hx
 exact h y
theorem b7l (l:List Tx) (k j:Nat) (hk:k < 16) (hx:bdS 1048576 (fun t=>t.length≤1048576) l):S0 Tryz.prog 81 [.val (.list 1 (l.map tx))] (fun _=>.dead) (fun _=>false) (.own (DN k j)) (dyn fun k' j'=>if k'=k∧j'=j then .row 9 1 (l.map tx) else .dead):=
 c0r (a82 l hx) (a5b (fun _=>rfl) l) k j hk
theorem b1x (l:List Int) (k j:Nat) (hk:k < 16) (hx:l.length≤1048576):S0 Tryz.prog 66 [.val (.list 1 (l.map num))] (fun _=>.dead) (fun _=>false) (.own (DN k j)) (dyn fun k' j'=>if k'=k∧j'=j then .row 3 1 (l.map num) else .dead):=
 c0r (b2y l hx) (a5b (fun _=>rfl) l) k j hk
def a1h (x:LWire) (j:Nat):List PV:=[.val (num x.at_),.val (num x.status),.val (tx x.group),.val (tx x.url),.own (DN 10 j),.val (tx x.body),.val (.bool x.lost)]
def a1z (x:LWire) (k:Nat):MObj:=if k=10 then .row 3 1 (x.ids.map num) else .dead
theorem a6w (x:LWire) (k:Nat):((k=10)∧∃ E sz xs,a1z x k=.row E sz xs)∨a1z x k=.dead∧¬ (k=10):=by
 by_cases h:k=10
 · refine .inl ⟨h,?_⟩
   unfold a1z
   subst h;simp
 · refine .inr ⟨?_,h⟩
   unfold a1z
   skip
   simp [h]
theorem a86 (x:LWire) (j:Nat) {S:Nat→Bool} (h:∀ k,(k=10)→S (DN k j)=true):(PV.agg (a1h x j)).onT S:=by
 refine b6d fun p hp=>?_
 simp only [a1h,List.mem_cons,List.not_mem_nil,or_false] at hp
 rcases hp with rfl | rfl | rfl | rfl | rfl | rfl | rfl
 · exact a0m
 · exact a0m
 · exact a0m
 · exact a0m
 · exact a29 (h _ (by simp))
 · exact a0m
 · exact a0m
theorem b7k (x:LWire) (j:Nat) (hx:a0v 1048576 x):S0 Tryz.prog 18 [.val (P3 x)] (fun _=>.dead) (fun _=>false) (.agg (a1h x j)) (dyn fun k i=>if i=j then a1z x k else .dead):=by
 refine a5l mixed ok18 (fun i h=>by cases h) (fun i h=>by cases h) ?_
 unfold ir18
 rw [a8]
 unfold a0v at hx
 obtain ⟨b0,b1,b2,b3⟩:=hx
 simp [P3,tx,num]
 refine b3y (rs:=[.list 1 (x.ids.map num)]) (fun k' i'=>k' == 10 && i' == j) rfl (b1x x.ids 10 j (by omega) b2) ?_ ?_ ?_
 · intro k i hk hl
   by_cases h:k=10∧i=j
   · rw [if_pos h]
     exact ⟨by simp [h],a17,fun cs h=>by cases h⟩
   · rw [if_neg h] at hl;cases hl
 · exact a29 (by simp)
 simp [P3,tx,num]
 refine c5f _ ?_ ?_ ?_ ?_
 · simp [a1h,a1z,P3,tx,num,P2,X5]
 · intro k i hk hl
   by_cases h:i=j
   · subst h
     rw [if_pos rfl] at hl ⊢
     rcases a6w x k with ⟨h,E,sz,xs,e⟩ | ⟨h,_⟩
     · subst h<;>simp [a1h,a1z]
     · rw [h] at hl;cases hl
   · rw [if_neg h] at hl;cases hl
 · exact a86 x j fun k _=>by simp
 · intro k i hk
   by_cases h:i=j
   · rw [if_pos h]
     rcases a6w x k with ⟨h,E,sz,xs,e⟩ | ⟨h,_⟩
     · rw [e];exact a17
     · rw [h];exact a2l
   · rw [if_neg h];exact a2l
end Go.Proofs
end
section
namespace Go.Proofs
open Go.PW Go.KP
attribute [local simp] RV.cells RV.one PV.cells PV.solid PV.one F7 a6 N5 N7 RV.ofCells elems PV.killL
variable [GF]
attribute [local simp] a4q a9w b6i b6j b6g b6h a13 b1w a67 b74 b2i b2j a7m
def a15 (x:LBox) (j:Nat):List PV:=[.own (DN 11 j),.own (DN 12 j),.own (DN 13 j)]
def a1q (x:LBox) (k:Nat):MObj:=if k=11 then .row 3 1 (x.ids.map num) else if k=12 then .row 3 1 (x.times.map num) else if k=13 then .row 9 1 (x.bodies.map tx) else .dead
theorem a8m (x:LBox) (k:Nat):((k=11∨k=12∨k=13)∧∃ E sz xs,a1q x k=.row E sz xs)∨a1q x k=.dead∧¬ (k=11∨k=12∨k=13):=by
 by_cases h:k=11∨k=12∨k=13
 · refine .inl ⟨h,?_⟩
   unfold a1q
   rcases h with rfl | rfl | rfl<;>simp
 · refine .inr ⟨?_,h⟩
   unfold a1q
   simp only [not_or] at h
   simp [h]
theorem b17 (x:LBox) (j:Nat) {S:Nat→Bool} (h:∀ k,(k=11∨k=12∨k=13)→S (DN k j)=true):(PV.agg (a15 x j)).onT S:=by
 refine b6d fun p hp=>?_
 simp only [a15,List.mem_cons,List.not_mem_nil,or_false] at hp
 rcases hp with rfl | rfl | rfl
 · exact a29 (h _ (by simp))
 · exact a29 (h _ (by simp))
 · exact a29 (h _ (by simp))
theorem c1b (x:LBox) (j:Nat) (hx:a16 1048576 x):S0 Tryz.prog 33 [.val (O9 x)] (fun _=>.dead) (fun _=>false) (.agg (a15 x j)) (dyn fun k i=>if i=j then a1q x k else .dead):=by
 refine a5l mixed ok33 (fun i h=>by cases h) (fun i h=>by cases h) ?_
 unfold ir33
 rw [a8]
 unfold a16 at hx
 obtain ⟨b0,b1,b2⟩:=hx
 simp [O9,tx,num]
 refine b3y (rs:=[.list 1 (x.ids.map num)]) (fun k' i'=>k' == 11 && i' == j) rfl (b1x x.ids 11 j (by omega) b0) ?_ ?_ ?_
 · intro k i hk hl
   by_cases h:k=11∧i=j
   · rw [if_pos h]
     exact ⟨by simp [h],a17,fun cs h=>by cases h⟩
   · rw [if_neg h] at hl;cases hl
 · exact a29 (by simp)
 simp [O9,tx,num]
 refine b3y (rs:=[.list 1 (x.times.map num)]) (fun k' i'=>k' == 12 && i' == j) rfl (b1x x.times 12 j (by omega) b1) ?_ ?_ ?_
 · intro k i hk hl
   by_cases h:k=12∧i=j
   · rw [if_pos h]
     exact ⟨by simp [h],a17,fun cs h=>by cases h⟩
   · rw [if_neg h] at hl;cases hl
 · exact a29 (by simp)
 simp [O9,tx,num]
 refine b3y (rs:=[.list 1 (x.bodies.map tx)]) (fun k' i'=>k' == 13 && i' == j) rfl (b7l x.bodies 13 j (by omega) b2) ?_ ?_ ?_
 · intro k i hk hl
   by_cases h:k=13∧i=j
   · rw [if_pos h]
     exact ⟨by simp [h],a17,fun cs h=>by cases h⟩
   · rw [if_neg h] at hl;cases hl
 · exact a29 (by simp)
 simp [O9,tx,num]
 refine c5f _ ?_ ?_ ?_ ?_
 · simp [a15,a1q,O9,tx,num,P2,X5]
 · intro k i hk hl
   by_cases h:i=j
   · subst h
     rw [if_pos rfl] at hl ⊢
     rcases a8m x k with ⟨h,E,sz,xs,e⟩ | ⟨h,_⟩
     · rcases h with rfl | rfl | rfl<;>simp [a15,a1q]
     · rw [h] at hl;cases hl
   · rw [if_neg h] at hl;cases hl
 · exact b17 x j fun k _=>by simp
 · intro k i hk
   by_cases h:i=j
   · rw [if_pos h]
     rcases a8m x k with ⟨h,E,sz,xs,e⟩ | ⟨h,_⟩
     · rw [e];exact a17
     · rw [h];exact a2l
   · rw [if_neg h];exact a2l
end Go.Proofs
end
section
namespace Go.Proofs
open Go.PW Go.KP
attribute [local simp] RV.cells RV.one PV.cells PV.solid PV.one F7 a6 N5 N7 RV.ofCells elems PV.killL
variable [GF]
attribute [local simp] a4q a9w b6i b6j b6g b6h a13 b1w a67 b74 b2i b2j a7m
def S4 (k i:Nat):Bool:=(k == 10) && i == 0
def Y3 (x:LWire) (k i:Nat):MObj:=if i=0 then a1z x k else .dead
def a2x (x:LWire):Nat:=x.ids.length
theorem a39 (x:LWire) (k i:Nat):(S4 k i=true∧∃ E sz xs,Y3 x k i=.row E sz xs)∨Y3 x k i=.dead:=by
 unfold Y3
 by_cases h:i=0
 · subst h
   rw [if_pos rfl]
   rcases a6w x k with ⟨h,e⟩ | ⟨h,_⟩
   · refine .inl ⟨?_,e⟩
     unfold S4
     subst h;rfl
   · exact .inr h
 · rw [if_neg h];exact .inr rfl
theorem b05 (x:LWire) (k i:Nat) (h:(Y3 x k i).live=true):S4 k i=true:=by
 rcases a39 x k i with ⟨h',_⟩ | e
 · exact h'
 · rw [e] at h;cases h
theorem a5z (x:LWire) (k i:Nat) {S:Nat→Bool}:(Y3 x k i).onT S:=by
 rcases a39 x k i with ⟨_,E,sz,xs,e⟩ | e<;>rw [e]
 · exact a17
 · exact a2l
theorem a8v (x:LWire) (k i:Nat):∀ cs,Y3 x k i≠.box cs:=by
 intro cs h
 rcases a39 x k i with ⟨_,E,sz,xs,e⟩ | e<;>rw [e] at h<;>cases h
theorem a42 (x:LWire) (k i:Nat) (d:Nat→Bool):(Y3 x k i).kill d=Y3 x k i:=by
 rcases a39 x k i with ⟨_,E,sz,xs,e⟩ | e<;>rw [e]<;>rfl
theorem a87 (x:LWire):(PV.agg (a1h x 0)).onT (TD S4):=a86 x 0 fun k h=>by
 subst h;simp [S4]
theorem b0r (x:LWire) (M:Nat→MObj) (h:∀ k j,k < 16→S4 k j=true→M (DN k j)=Y3 x k j):Res M (.agg (a1h x 0)) (P3 x):=by
 refine .agg _ _ rfl fun i hi=>?_
 have:i=0∨i=1∨i=2∨i=3∨i=4∨i=5∨i=6:=by simp [a1h] at hi;omega
 rcases this with rfl | rfl | rfl | rfl | rfl | rfl | rfl
 · exact .val _
 · exact .val _
 · exact .val _
 · exact .val _
 · exact .row _ 3 _ _ (by rw [h 10 0 (by omega) (by simp [S4])];simp [Y3,a1z])
 · exact .val _
 · exact .val _
theorem b0a (x:LWire) (hs:a0v 1048576 x):f9 Tryz.prog 18 [.val (P3 x)] (.ret (.val (P3 x)) []) []:=
 ok_of_mem (b7k x 0 hs) (b0r x _ fun k j hk _=>a13 hk)
theorem c26 (x:LWire) (hs:a0v 1048576 x):S0 Tryz.prog 18 [.val (P3 x)] (fun _=>.dead) (fun _=>false) (.agg (a1h x 0)) (dyn (Y3 x)):=b7k x 0 hs
theorem b7m (x:LWire) (k:Nat) (hx:a0v 1048576 x) (hk:k+a2x x < 8388608):S0 Tryz.prog 21 [.agg (a1h x 0),.val (num k)] (dyn (Y3 x)) (fun _=>false) (.val (num ((k+a2x x:Nat):Int))) (fun _=>.dead):=by
 refine a5l mixed ok21 (fun i h=>b7i h) (fun i h=>by cases h) ?_
 unfold ir21
 rw [a8]
 have hcp:a2x x=x.ids.length:=rfl
 have q0:x.ids.length≤1048576:=hx.2.2.1
 obtain ⟨m1,hm1⟩:∃ m,k+1*x.ids.length=m:=⟨_,rfl⟩
 have h0:=a2v x.ids k (by omega) q0
 rw [hm1] at h0
 have hm:k+a2x x=m1:=by omega
 rw [hm]
 simp [num,tx,a1h,Y3,a1z]
 refine b8h (by simp [PV.plain1]) rfl rfl rfl h0 rfl ?_
 simp [num,tx,a1h,Y3,a1z]
 refine c5e ?_
 simp [P2,X5,num]
end Go.Proofs
end
section
namespace Go.Proofs
open Go.PW Go.KP
attribute [local simp] RV.cells RV.one PV.cells PV.solid PV.one F7 a6 N5 N7 RV.ofCells elems PV.killL
variable [GF]
attribute [local simp] a4q a9w b6i b6j b6g b6h a13 b1w a67 b74 b2i b2j a7m
def U4 (k i:Nat):Bool:=(k == 11 || k == 12 || k == 13) && i == 0
def Z0 (x:LBox) (k i:Nat):MObj:=if i=0 then a1q x k else .dead
def a4e (x:LBox):Nat:=x.ids.length+x.times.length+x.bodies.length
theorem a50 (x:LBox) (k i:Nat):(U4 k i=true∧∃ E sz xs,Z0 x k i=.row E sz xs)∨Z0 x k i=.dead:=by
 unfold Z0
 by_cases h:i=0
 · subst h
   rw [if_pos rfl]
   rcases a8m x k with ⟨h,e⟩ | ⟨h,_⟩
   · refine .inl ⟨?_,e⟩
     unfold U4
     rcases h with rfl | rfl | rfl<;>rfl
   · exact .inr h
 · rw [if_neg h];exact .inr rfl
theorem b4r (x:LBox) (k i:Nat) (h:(Z0 x k i).live=true):U4 k i=true:=by
 rcases a50 x k i with ⟨h',_⟩ | e
 · exact h'
 · rw [e] at h;cases h
theorem a7v (x:LBox) (k i:Nat) {S:Nat→Bool}:(Z0 x k i).onT S:=by
 rcases a50 x k i with ⟨_,E,sz,xs,e⟩ | e<;>rw [e]
 · exact a17
 · exact a2l
theorem b06 (x:LBox) (k i:Nat):∀ cs,Z0 x k i≠.box cs:=by
 intro cs h
 rcases a50 x k i with ⟨_,E,sz,xs,e⟩ | e<;>rw [e] at h<;>cases h
theorem a60 (x:LBox) (k i:Nat) (d:Nat→Bool):(Z0 x k i).kill d=Z0 x k i:=by
 rcases a50 x k i with ⟨_,E,sz,xs,e⟩ | e<;>rw [e]<;>rfl
theorem b18 (x:LBox):(PV.agg (a15 x 0)).onT (TD U4):=b17 x 0 fun k h=>by
 rcases h with rfl | rfl | rfl<;>simp [U4]
theorem b4b (x:LBox) (M:Nat→MObj) (h:∀ k j,k < 16→U4 k j=true→M (DN k j)=Z0 x k j):Res M (.agg (a15 x 0)) (O9 x):=by
 refine .agg _ _ rfl fun i hi=>?_
 have:i=0∨i=1∨i=2:=by simp [a15] at hi;omega
 rcases this with rfl | rfl | rfl
 · exact .row _ 3 _ _ (by rw [h 11 0 (by omega) (by simp [U4])];simp [Z0,a1q])
 · exact .row _ 3 _ _ (by rw [h 12 0 (by omega) (by simp [U4])];simp [Z0,a1q])
 · exact .row _ 9 _ _ (by rw [h 13 0 (by omega) (by simp [U4])];simp [Z0,a1q])
theorem b36 (x:LBox) (hs:a16 1048576 x):f9 Tryz.prog 33 [.val (O9 x)] (.ret (.val (O9 x)) []) []:=
 ok_of_mem (c1b x 0 hs) (b4b x _ fun k j hk _=>a13 hk)
theorem c5j (x:LBox) (hs:a16 1048576 x):S0 Tryz.prog 33 [.val (O9 x)] (fun _=>.dead) (fun _=>false) (.agg (a15 x 0)) (dyn (Z0 x)):=c1b x 0 hs
theorem b9t (x:LBox) (k:Nat) (hx:a16 1048576 x) (hk:k+a4e x < 8388608):S0 Tryz.prog 29 [.agg (a15 x 0),.val (num k)] (dyn (Z0 x)) (fun _=>false) (.val (num ((k+a4e x:Nat):Int))) (fun _=>.dead):=by
 refine a5l mixed ok29 (fun i h=>b7i h) (fun i h=>by cases h) ?_
 unfold ir29
 rw [a8]
 have hcp:a4e x=x.ids.length+x.times.length+x.bodies.length:=rfl
 have q0:x.ids.length≤1048576:=hx.1
 obtain ⟨m1,hm1⟩:∃ m,k+1*x.ids.length=m:=⟨_,rfl⟩
 have h0:=a2v x.ids k (by omega) q0
 rw [hm1] at h0
 have q1:x.times.length≤1048576:=hx.2.1
 obtain ⟨m2,hm2⟩:∃ m,m1+1*x.times.length=m:=⟨_,rfl⟩
 have h1:=a2v x.times m1 (by omega) q1
 rw [hm2] at h1
 have q2:x.bodies.length≤1048576:=hx.2.2.1
 obtain ⟨m3,hm3⟩:∃ m,m2+1*x.bodies.length=m:=⟨_,rfl⟩
 have h2:=a6r x.bodies m2 (by omega) q2
 rw [hm3] at h2
 have hm:k+a4e x=m3:=by omega
 rw [hm]
 simp [num,tx,a15,Z0,a1q]
 refine b8h (by simp [PV.plain1]) rfl rfl rfl h0 rfl ?_
 simp [num,tx,a15,Z0,a1q]
 refine b8h (by simp [PV.plain1]) rfl rfl rfl h1 rfl ?_
 simp [num,tx,a15,Z0,a1q]
 refine b8h (by simp [PV.plain1]) rfl rfl rfl h2 rfl ?_
 simp [num,tx,a15,Z0,a1q]
 refine c5e ?_
 simp [P2,X5,num]
end Go.Proofs
end
section
namespace Go.Proofs
open Go.PW Go.KP
attribute [local simp] RV.cells RV.one PV.cells PV.solid PV.one F7 a6 N5 N7 RV.ofCells elems PV.killL
variable [GH]
theorem b0q {st:St} {s t:Nat} {x1 x2 x3:PV} {r1 r2 r3 r:RV} (h1:st.env s=.ptr s 0) (h2:st.mem s=.box [x1,x2,x3]) (h5:st.env t=.val r) (g1:(x1.frz (O1 st fun _=>true)).pl=.val r1) (g2:(x2.frz (O1 st fun _=>true)).pl=.val r2) (g3:(x3.frz (O1 st fun _=>true)).pl=.val r3) :
 P2 [.c s true 3,.t t] st.fin=some (.tup [.val (.agg [r1,r2,r3]),.val r]):=by
 have e1:st.fin.env s=.ptr s 0:=by rw [K3,h1];simp [PV.frz,O1,h2,PV.pl]
 have e2:st.fin.mem s=.box [.val r1,.val r2,.val r3]:=by simp [St.fin,St.freeze,h2,MObj.pl,PV.frzL,PV.plL,g1,g2,g3]
 have e3:st.fin.env t=.val r:=by rw [K3,h5];rfl
 simp only [P2,R6,X5,e1,e2,e3]
 simp [N5,a6]
theorem resB3a {st:St} {s:Nat} {x1 x2 x3:PV} {r1 r2 r3:RV} (h1:st.env s=.ptr s 0) (h2:st.mem s=.box [x1,x2,x3]) (g1:(x1.frz (O1 st fun _=>true)).pl=.val r1) (g2:(x2.frz (O1 st fun _=>true)).pl=.val r2) (g3:(x3.frz (O1 st fun _=>true)).pl=.val r3) :
 P2 [.c s true 3] st.fin=some (.val (.agg [r1,r2,r3])):=by
 have e1:st.fin.env s=.ptr s 0:=by rw [K3,h1];simp [PV.frz,O1,h2,PV.pl]
 have e2:st.fin.mem s=.box [.val r1,.val r2,.val r3]:=by simp [St.fin,St.freeze,h2,MObj.pl,PV.frzL,PV.plL,g1,g2,g3]
 simp only [P2,X5,e1,e2]
 simp [N5,a6]
theorem c3b (b:LBox) (h1:b.ids.length≤1048576) (h2:b.times.length≤1048576) (h3:b.bodies.length≤1048576):f9 Tryz.prog 80 [.val (O9 b)] (.ret (.agg [.own 0,.own 1,.own 2]) [⟨3,1,b.ids.map num⟩,⟨3,1,b.times.map num⟩,⟨9,1,b.bodies.map tx⟩]) []:=by
 refine a8e (mk:=fun x y z=>.agg [.own x,.own y,.own z]) (r1:=⟨3,1,b.ids.map num⟩) (r2:=⟨3,1,b.times.map num⟩) (r3:=⟨9,1,b.bodies.map tx⟩) mixed ok80 rfl (fun _=>rfl) ?_
 unfold ir80
 rw [a8]
 simp [b9,p6,K4,a7,b8,O9,num,tx,elems,a6,RV.one,F7]
 repeat' apply And.intro
 all_goals first
  | omega
  | exact ⟨_,Le.forget rfl (fun x=>.refl _),3,7,11,by omega,by omega,by omega,by simp [P2,R6,X5,N5,a6,PV.kill],by simp,by simp,by simp⟩
theorem c5v (b:LBox) (h1:b.ids.length≤1048576) (h2:b.times.length≤1048576) (h3:b.bodies.length≤1048576):f9 Tryz.prog 80 [.val (O9 b)] (.ret (.val (O9 b)) []) []:=by
 refine F4 mixed ok80 rfl (fun _=>rfl) ?_
 unfold ir80
 rw [a8]
 simp [b9,p6,K4,a7,b8,O9,num,tx,elems,a6,RV.one,F7]
 repeat' apply And.intro
 all_goals first
  | omega
  | exact resB3a (x1:=.own 3) (x2:=.own 7) (x3:=.own 11) (by simp) (by simp) (by simp [PV.frz,PV.pl,O1,okId,PV.kill]) (by simp [PV.frz,PV.pl,O1,okId,PV.kill]) (by simp [PV.frz,PV.pl,O1,okId,PV.kill])
theorem c1d (b:LBox) (id:Int) (h:b.ids.length≤1048576):f9 Tryz.prog 130 [.val (O9 b),.val (num id)] (.ret (.val (num (a24 b id))) []) []:=by
 refine F4 mixed ok130 rfl (fun _=>rfl) ?_
 unfold ir130
 rw [a8]
 simp [b9,p6,K4,a7,b8,O9,num,tx]
 refine P0 (X:=Nat) (fun i=>⟨Q0 [(1,.val (num id)),(2,.ptr 2 0),(5,.val (num (i:Int)))],P6 [(2,.box [.val (.list 1 (b.ids.map num)),.val (.list 1 (b.times.map num)),.val (.list 1 (b.bodies.map tx))])]⟩)
  (fun i=>i≤b.ids.length∧∀ j (h:j < b.ids.length),j < i→b.ids[j]≠id) (fun i=>b.ids.length - i) 0 (Le.mk _ _ ?_ ?_) ⟨Nat.zero_le _,fun j _ h=>absurd h (Nat.not_lt_zero _)⟩ ?_
 · simp [num,tx,PV.kill]
 · simp [num,tx,MObj.kill,PV.kill,PV.killL,p8]
 · rintro i ⟨hi,hno⟩
   have wi:IntKind.i64.wrap ((i:Int)+1)=((i+1:Nat):Int):=by rw [wrap_i64 (by omega) (by omega)];omega
   by_cases h1:i < b.ids.length
   · by_cases h2:b.ids[i]=id
     · have e:a24 b id=i:=a2n h1 (by simp [h2]) (fun k hk=>by simpa using hno k (by omega) hk)
       rw [e]
       simp [num,tx,h1,h2]
     · simp [num,tx,h1,h2]
       refine LoopNext.mk (i+1) ⟨h1,fun j hj hji=>?_⟩ (by omega) (Le.mk _ _ ?_ ?_)
       · by_cases e:j=i
         · subst e;exact h2
         · exact hno j hj (by omega)
       · simp [num,wi,tx]
       · simp [num,tx]
   · have e:a24 b id=-1:=a3s (fun k hk=>by simpa using hno k hk (by omega))
     rw [e]
     simp [num,tx,h1]
def rcv (b:LBox) (w:LWire):LBox×Int:=if ¬ (200≤w.status∧w.status≤299) then (b,17) else if poC w≠0 then (b,poC w) else match a0d b (poR w) with
 | none=>(b,13)
 | some x=>if 4096 < x.ids.length then (b,7) else (x,0)
def c3s (w:LWire):Prop:=-9223372036854775808≤w.status∧w.status≤9223372036854775807
theorem tdivH (n:Int):(n.tdiv 100=2)↔(200≤n∧n≤299):=by
 rcases Int.le_total 0 n with h | h
 · rw [Int.tdiv_eq_ediv_of_nonneg h];omega
 · obtain ⟨m,rfl⟩:∃ m:Int,n=-m:=⟨-n,by omega⟩
   rw [Int.neg_tdiv,Int.tdiv_eq_ediv_of_nonneg (by omega)]
   omega
theorem wquo {w:LWire} (h:c3s w):IntKind.i64.wrap (w.status.tdiv 100)=w.status.tdiv 100:=by
 obtain ⟨hl,hu⟩:=h
 rcases Int.le_total 0 w.status with h | h
 · rw [Int.tdiv_eq_ediv_of_nonneg h];exact wrap_i64 (by omega) (by omega)
 · obtain ⟨m,hm⟩:∃ m:Int,w.status=-m:=⟨-w.status,by omega⟩
   rw [hm,Int.neg_tdiv,Int.tdiv_eq_ediv_of_nonneg (by omega)]
   exact wrap_i64 (by omega) (by omega)
theorem b5d (b:LBox) (w:LWire) (hw:c3s w) (hb:BI b) (hl:b.ids.length≤1000000):f9 Tryz.prog 79 [.val (O9 b),.val (P3 w)] (.ret (.tup [.val (O9 (rcv b w).1),.val (num (rcv b w).2)]) []) []:=by
 have wq:=wquo hw
 have w2:IntKind.i64.wrap 2=2:=by decide
 have ht:=tdivH w.status
 obtain ⟨R,hR⟩:∃ R,rcv b w=R:=⟨_,rfl⟩
 rw [hR]
 unfold rcv at hR
 obtain ⟨Z,hZ⟩:∃ Z,a4s [.c 4 true 3,.t 5] (.tup [.val (O9 R.1),.val (num R.2)])=Z:=⟨_,rfl⟩
 refine F4 mixed ok79 rfl (fun _=>rfl) ?_
 rw [hZ]
 unfold ir79
 rw [a8]
 by_cases h1:200≤w.status∧w.status≤299
 rotate_left
 · rw [if_pos h1] at hR
   subst hR
   have h1':¬ w.status.tdiv 100=2:=fun h=>h1 (ht.1 h)
   simp [b9,p6,K4,a7,b8,O9,P3,num,tx,wq,w2,h1']
   rw [← hZ]
   simp
   exact b0q (x1:=.val (.list 1 (b.ids.map num))) (x2:=.val (.list 1 (b.times.map num))) (x3:=.val (.list 1 (b.bodies.map tx))) (by simp) (by simp [num,tx]) (by simp [num]) rfl rfl rfl
 rw [if_neg (fun h=>h h1)] at hR
 have h1':w.status.tdiv 100=2:=ht.2 h1
 have hp:=b7x w
 have hpb:=(b8o w).1
 generalize poR w=L at *
 generalize poC w=c at *
 simp [b9,p6,K4,a7,b8,O9,P3,num,tx,wq,w2,h1']
 refine T0 rfl rfl (.inl rfl) hp ?_
 simp [O9,P3,num,tx]
 by_cases h2:c=0
 rotate_left
 · rw [if_pos h2] at hR
   subst hR
   simp [num,tx,h2]
   rw [← hZ]
   simp
   exact b0q (x1:=.val (.list 1 (b.ids.map num))) (x2:=.val (.list 1 (b.times.map num))) (x3:=.val (.list 1 (b.bodies.map tx))) (by simp) (by simp [num,tx]) (by simp [num]) rfl rfl rfl
 rw [if_neg (fun h=>h h2)] at hR
 have hO:=c3b b (by omega) (by rw [hb.1];omega) (by rw [hb.2.1];omega)
 simp [num,tx,h2]
 refine a2g rfl rfl rfl (.inl rfl) hO ?_
 simp [num,tx,PV.shift,PV.shiftL,d5,PV.kill,PV.killL]
 refine P0 (X:=Nat×LBox) (fun q=>⟨Q0 [(2,.ptr 2 0),(4,.ptr 4 0),(6,.val (.list 3 (L.map N6))),(8,.ptr 8 0),(9,.val (num (q.1:Int)))],P6 [(2,.box [.val (.list 1 (b.ids.map num)),.val (.list 1 (b.times.map num)),.val (.list 1 (b.bodies.map tx))]),(4,.box [.emp 1,.emp 1,.emp 1]),(8,.box [.own 27000,.own 27001,.own 27002]),(27000,.row 3 1 (q.2.ids.map num)),(27001,.row 3 1 (q.2.times.map num)),(27002,.row 9 1 (q.2.bodies.map tx))]⟩)
  (fun q=>q.1≤L.length∧a0d b (L.take q.1)=some q.2) (fun q=>L.length - q.1) (0,b) (Le.mk _ _ ?_ ?_) ⟨Nat.zero_le _,rfl⟩ ?_
 · simp [num,tx,PV.kill]
 · simp [num,tx,MObj.kill,PV.kill,PV.killL,p8]
 · rintro ⟨i,y⟩ ⟨hi,hy⟩
   replace hi:i≤L.length:=hi
   replace hy:a0d b (L.take i)=some y:=hy
   have wi:IntKind.i64.wrap ((i:Int)+1)=((i+1:Nat):Int):=by rw [wrap_i64 (by omega) (by omega)];omega
   obtain ⟨⟨y1,y2,y3⟩,y4,y5⟩:=b2b hb hy
   have y4':y.ids.length≤b.ids.length+i:=by simp [List.length_take] at y4;omega
   by_cases h3:i < L.length
   · obtain ⟨p,hp0⟩:∃ p,L[i]=p:=⟨_,rfl⟩
     have hA:=c1d y p.id (by omega)
     unfold O9 at hA
     simp [num,tx,h3,hp0,N6]
     refine d4 rfl rfl (.inr rfl) hA ?_
     have hs0:a5p y p=if a24 y p.id < 0 then some ⟨y.ids++[p.id],y.times++[1],y.bodies++[p.body]⟩ else if y.bodies.getD (a24 y p.id).toNat []=p.body then some ⟨y.ids,y.times.set (a24 y p.id).toNat (min (y.times.getD (a24 y p.id).toNat 0+1) 1000000),y.bodies⟩ else none:=rfl
     rcases a7k y p.id with e | ⟨k,hk,e⟩
     · rw [e] at hs0 ⊢
       have hn:=a4l h3 hy (by rw [hp0];exact hs0)
       simp [num,tx,h3,hp0,N6,elems,a6,RV.one,F7,y1,y2]
       refine ⟨by omega,by omega,by omega,by omega,by omega,by omega,?_⟩
       refine LoopNext.mk (i+1,⟨y.ids++[p.id],y.times++[1],y.bodies++[p.body]⟩) ⟨h3,hn⟩ (by show L.length - (i+1) < L.length - i;omega) (Le.mk _ _ ?_ ?_)
       · simp [num,wi,tx]
       · simp [num,tx,PV.kill,MObj.kill]
     · rw [e] at hs0 ⊢
       have hk0:¬ (k:Int) < 0:=by omega
       rw [if_neg hk0] at hs0
       have hkb:k < y.bodies.length:=by omega
       have hkt:k < y.times.length:=by omega
       simp only [Int.toNat_natCast,List.getD_eq_getElem?_getD,List.getElem?_eq_getElem hkb,List.getElem?_eq_getElem hkt,Option.getD_some] at hs0
       obtain ⟨bd,hbd⟩:∃ x,y.bodies[k]=x:=⟨_,rfl⟩
       obtain ⟨tm,htm⟩:∃ x,y.times[k]=x:=⟨_,rfl⟩
       rw [hbd,htm] at hs0
       have htb:=y3 _ (List.getElem_mem hkt)
       rw [htm] at htb
       by_cases h4:bd=p.body
       · rw [if_pos h4] at hs0
         have hn:=a4l h3 hy (by rw [hp0];exact hs0)
         have hmin:(if (1000000:Int) < tm+1 then (1000000:Int) else tm+1)=min (tm+1) 1000000:=by split<;>omega
         have wt:IntKind.i64.wrap (tm+1)=tm+1:=wrap_i64 (by omega) (by omega)
         simp [num,tx,h3,hp0,N6,hk0,hk,hkb,hkt,hbd,htm,h4,wt,hmin,Q8]
         refine LoopNext.mk (i+1,⟨y.ids,y.times.set k (min (tm+1) 1000000),y.bodies⟩) ⟨h3,hn⟩ (by show L.length - (i+1) < L.length - i;omega) (Le.mk _ _ ?_ ?_)
         · simp [num,wi,tx]
         · simp [num,tx,PV.kill,MObj.kill,hkt,List.map_set]
       · rw [if_neg h4] at hs0
         have hn:=b2a h3 hy (by rw [hp0];exact hs0)
         rw [hn] at hR
         simp only [] at hR
         subst hR
         simp [num,tx,h3,hp0,N6,hk0,hk,hkb,hkt,hbd,htm,h4,Q8]
         rw [← hZ]
         simp
         exact b0q (x1:=.val (.list 1 (b.ids.map num))) (x2:=.val (.list 1 (b.times.map num))) (x3:=.val (.list 1 (b.bodies.map tx))) (by simp) (by simp [num,tx]) (by simp [num]) rfl rfl rfl
   · have e:i=L.length:=by omega
     subst e
     rw [List.take_length] at hy
     rw [hy] at hR
     simp only [] at hR
     by_cases h4:4096 < y.ids.length
     · have h4':(4096:Int) < (y.ids.length:Int):=by omega
       rw [if_pos h4] at hR
       subst hR
       simp [num,tx,h4,h4']
       rw [← hZ]
       simp
       exact b0q (x1:=.val (.list 1 (b.ids.map num))) (x2:=.val (.list 1 (b.times.map num))) (x3:=.val (.list 1 (b.bodies.map tx))) (by simp) (by simp [num,tx]) (by simp [num]) rfl rfl rfl
     · have h4':¬ (4096:Int) < (y.ids.length:Int):=by omega
       rw [if_neg h4] at hR
       subst hR
       simp [num,tx,h4,h4']
       rw [← hZ]
       simp
       exact b0q (x1:=.own 27000) (x2:=.own 27001) (x3:=.own 27002) (by simp) (by simp [num,tx]) (by simp [num]) (by simp [PV.frz,PV.pl,O1,okId,PV.kill]) (by simp [PV.frz,PV.pl,O1,okId,PV.kill]) (by simp [PV.frz,PV.pl,O1,okId,PV.kill])
end Go.Proofs
end
section
namespace Go.Proofs
open Go.PW Go.KP
attribute [local simp] RV.cells RV.one PV.cells PV.solid PV.one F7 a6 N5 N7 RV.ofCells elems PV.killL
variable [GH]
def BJ (b:LBox):Prop:=KP.BI b∧b.ids.length≤4096∧∀ s∈b.bodies,s.length≤8000
theorem rcv_BJ {b:LBox} {w:LWire} (h:BJ b):BJ (rcv b w).1:=by
 unfold rcv
 split
 · exact h
 split
 · exact h
 split
 · exact h
 · rename_i x hx
   split
   · exact h
   · rename_i h4
     obtain ⟨a1,a2,a3⟩:=b2b h.1 hx
     refine ⟨a1,by show x.ids.length≤4096;omega,fun s hs=>?_⟩
     rcases a3 s hs with hs | ⟨p,hp,rfl⟩
     · exact h.2.2 s hs
     · exact (b8o w).2 p hp
def c1f:LBox:=⟨[],[],[]⟩
theorem BJ_zero:BJ c1f:=⟨⟨rfl,rfl,by simp [c1f]⟩,Nat.zero_le _,by simp [c1f]⟩
end Go.Proofs
end
section
namespace Go.Proofs
open Go.PW Go.KP
attribute [local simp] RV.cells RV.one PV.cells PV.solid PV.one F7 a6 N5 N7 RV.ofCells elems PV.killL
variable [GH]
theorem a9q (l:List Int) (hl:l.length≤1048576):f9 Tryz.prog 189 [.val (.list 1 (l.map num))] (.ret (.own 0) [⟨3,1,l.map num⟩]) []:=by
 refine a8d (mk:=fun i=>.own i) mixed ok189 rfl (fun _=>rfl) ?_
 unfold ir189
 rw [a8]
 simp [b9,p6,K4,a7,b8,num,tx,elems,a6,RV.one,F7]
 refine ⟨fun h=>?_,?_⟩
 · subst h
   exact b53 1 600 (by omega) (.inl (by omega)) (by simp)
 · repeat' apply And.intro
   all_goals first
    | omega
    | exact b52 5 (by simp) (by simp)
theorem b68 (l:List Tx) (hl:l.length≤1048576):f9 Tryz.prog 190 [.val (.list 1 (l.map tx))] (.ret (.own 0) [⟨9,1,l.map tx⟩]) []:=by
 refine a8d (mk:=fun i=>.own i) mixed ok190 rfl (fun _=>rfl) ?_
 unfold ir190
 rw [a8]
 simp [b9,p6,K4,a7,b8,num,tx,elems,a6,RV.one,F7]
 refine ⟨fun h=>?_,?_⟩
 · subst h
   exact b53 1 600 (by omega) (.inl (by omega)) (by simp)
 · repeat' apply And.intro
   all_goals first
    | omega
    | exact b52 5 (by simp) (by simp)
theorem c5a (b:LBox) (h1:b.ids.length≤1048576) (h2:b.times.length≤1048576) (h3:b.bodies.length≤1048576):f9 Tryz.prog 126 [.val (O9 b)] (.ret (.agg [.own 0,.own 1,.own 2]) [⟨3,1,b.ids.map num⟩,⟨3,1,b.times.map num⟩,⟨9,1,b.bodies.map tx⟩]) []:=by
 refine a8e (mk:=fun x y z=>.agg [.own x,.own y,.own z]) (r1:=⟨3,1,b.ids.map num⟩) (r2:=⟨3,1,b.times.map num⟩) (r3:=⟨9,1,b.bodies.map tx⟩) mixed ok126 rfl (fun _=>rfl) ?_
 unfold ir126
 rw [a8]
 simp [b9,p6,K4,a7,b8,O9,num,tx,elems,a6,RV.one,F7]
 refine a5j rfl rfl rfl (.inl rfl) (a9q b.ids h1) ?_
 simp [num,tx,PV.shift,PV.shiftL,d5,PV.kill,PV.killL]
 refine a5j rfl rfl rfl (.inl rfl) (a9q b.times h2) ?_
 simp [num,tx,PV.shift,PV.shiftL,d5,PV.kill,PV.killL]
 refine a5j rfl rfl rfl (.inl rfl) (b68 b.bodies h3) ?_
 simp [num,tx,PV.shift,PV.shiftL,d5,PV.kill,PV.killL]
 exact ⟨_,Le.forget rfl (fun x=>.refl _),6000,9000,12000,by omega,by omega,by omega,by simp [P2,R6,X5,N5,a6,PV.kill],by simp,by simp,by simp⟩
theorem b9d (n:Int):f9 Tryz.prog 127 [.val (num n)] (.ret (.val (.bool (decide (200≤n∧n≤299)))) []) []:=by
 refine F4 mixed ok127 rfl (fun _=>rfl) ?_
 unfold ir127
 rw [a8]
 have h:=Y1 n 200 299
 simp [b9,p6,K4,a7,b8,num]
 refine d4 rfl rfl (.inl rfl) h ?_
 simp
theorem c2s (b:LBox) (w:LWire) (hb:KP.BI b) (hl:b.ids.length≤1000000):f9 Tryz.prog 72 [.val (O9 b),.val (P3 w)] (.ret (.tup [.agg [.own 0,.own 1,.own 2],.val (num (rcv b w).2)]) [⟨3,1,(rcv b w).1.ids.map num⟩,⟨3,1,(rcv b w).1.times.map num⟩,⟨9,1,(rcv b w).1.bodies.map tx⟩]) []:=by
 obtain ⟨R,hR⟩:∃ R,rcv b w=R:=⟨_,rfl⟩
 rw [hR]
 unfold rcv at hR
 obtain ⟨Z,hZ⟩:∃ Z,b73 [.c 4 true 3,.t 5] (fun x y z=>.tup [.agg [.own x,.own y,.own z],.val (num R.2)]) ⟨3,1,R.1.ids.map num⟩ ⟨3,1,R.1.times.map num⟩ ⟨9,1,R.1.bodies.map tx⟩=Z:=⟨_,rfl⟩
 refine a8e (mk:=fun x y z=>.tup [.agg [.own x,.own y,.own z],.val (num R.2)]) (r1:=⟨3,1,R.1.ids.map num⟩) (r2:=⟨3,1,R.1.times.map num⟩) (r3:=⟨9,1,R.1.bodies.map tx⟩) mixed ok72 rfl (fun _=>rfl) ?_
 rw [hZ]
 unfold ir72
 rw [a8]
 have hS:=b9d w.status
 have hp:=b65 w
 have hpb:=(b8o w).1
 have hO:=c5a b (by omega) (by rw [hb.1];omega) (by rw [hb.2.1];omega)
 unfold O9 at hO
 generalize poR w=L at *
 generalize poC w=c at *
 simp [b9,p6,K4,a7,b8,O9,P3,num,tx]
 refine a2g rfl rfl rfl (.inl rfl) hO ?_
 simp [num,tx,PV.shift,PV.shiftL,d5,PV.kill,PV.killL]
 refine d4 rfl rfl (.inl rfl) hS ?_
 by_cases h1:200≤w.status∧w.status≤299
 rotate_left
 · rw [if_pos h1] at hR
   subst hR
   rw [decide_eq_false h1]
   simp [num,tx,PV.kill,PV.killL]
   rw [← hZ]
   exact a2f 14000 14001 14002 (by omega) (by omega) (by omega) (by simp) (by simp) (by simp [num]) (by simp) (by simp) (by simp)
 rw [if_neg (fun h=>h h1)] at hR
 rw [decide_eq_true h1]
 unfold P3 at hp
 simp [num,tx,PV.kill,PV.killL]
 refine a5j rfl rfl rfl (.inl rfl) hp ?_
 simp [num,tx,PV.shift,PV.shiftL,d5,PV.kill,PV.killL]
 by_cases h2:c=0
 rotate_left
 · rw [if_pos h2] at hR
   subst hR
   simp [num,tx,h2,PV.kill,PV.killL]
   rw [← hZ]
   exact a2f 14000 14001 14002 (by omega) (by omega) (by omega) (by simp) (by simp) (by simp [num]) (by simp) (by simp) (by simp)
 rw [if_neg (fun h=>h h2)] at hR
 simp [num,tx,h2,PV.kill,PV.killL]
 refine P0 (X:=Nat×LBox) (fun q=>⟨Q0 [(2,.ptr 2 0),(4,.ptr 4 0),(6,.ptr 6 0),(28,.own 22000),(29,.val (num L.length)),(30,.val (num (q.1:Int)))],P6 [(2,.box [.val (.list 1 (b.ids.map num)),.val (.list 1 (b.times.map num)),.val (.list 1 (b.bodies.map tx))]),(4,.box [.emp 1,.emp 1,.emp 1]),(6,.box [.own 14000,.own 14001,.own 14002]),(22000,.row 94 3 (L.map N6)),(14000,.row 3 1 (q.2.ids.map num)),(14001,.row 3 1 (q.2.times.map num)),(14002,.row 9 1 (q.2.bodies.map tx))]⟩)
  (fun q=>q.1≤L.length∧a0d b (L.take q.1)=some q.2) (fun q=>L.length - q.1) (0,b) (Le.mk _ _ ?_ ?_) ⟨Nat.zero_le _,rfl⟩ ?_
 · simp [num,tx,PV.kill]
 · simp [num,tx,MObj.kill,PV.kill,PV.killL,p8]
 · rintro ⟨i,y⟩ ⟨hi,hy⟩
   replace hi:i≤L.length:=hi
   replace hy:a0d b (L.take i)=some y:=hy
   have wi:IntKind.i64.wrap ((i:Int)+1)=((i+1:Nat):Int):=by rw [wrap_i64 (by omega) (by omega)];omega
   obtain ⟨⟨y1,y2,y3⟩,y4,y5⟩:=b2b hb hy
   have y4':y.ids.length≤b.ids.length+i:=by simp [List.length_take] at y4;omega
   by_cases h3:i < L.length
   · obtain ⟨p,hp0⟩:∃ p,L[i]=p:=⟨_,rfl⟩
     have hA:=b66 y.ids p.id (by omega)
     have eA:(a2o y.ids fun x=>decide (x=p.id))=a24 y p.id:=rfl
     rw [eA] at hA
     simp [num,tx,h3,hp0,N6]
     refine d4 rfl rfl (.inr rfl) hA ?_
     have hs0:a5p y p=if a24 y p.id < 0 then some ⟨y.ids++[p.id],y.times++[1],y.bodies++[p.body]⟩ else if y.bodies.getD (a24 y p.id).toNat []=p.body then some ⟨y.ids,y.times.set (a24 y p.id).toNat (min (y.times.getD (a24 y p.id).toNat 0+1) 1000000),y.bodies⟩ else none:=rfl
     rcases a7k y p.id with e | ⟨k,hk,e⟩
     · rw [e] at hs0 ⊢
       have hn:=a4l h3 hy (by rw [hp0];exact hs0)
       simp [num,tx,h3,hp0,N6,elems,a6,RV.one,F7,y1,y2]
       refine ⟨by omega,by omega,by omega,by omega,by omega,by omega,?_⟩
       refine LoopNext.mk (i+1,⟨y.ids++[p.id],y.times++[1],y.bodies++[p.body]⟩) ⟨h3,hn⟩ (by show L.length - (i+1) < L.length - i;omega) (Le.mk _ _ ?_ ?_)
       · simp [num,wi,tx,PV.kill]
       · simp [num,tx,PV.kill,MObj.kill]
     · rw [e] at hs0 ⊢
       have hk0:¬ (k:Int) < 0:=by omega
       rw [if_neg hk0] at hs0
       have hkb:k < y.bodies.length:=by omega
       have hkt:k < y.times.length:=by omega
       simp only [Int.toNat_natCast,List.getD_eq_getElem?_getD,List.getElem?_eq_getElem hkb,List.getElem?_eq_getElem hkt,Option.getD_some] at hs0
       obtain ⟨bd,hbd⟩:∃ x,y.bodies[k]=x:=⟨_,rfl⟩
       obtain ⟨tm,htm⟩:∃ x,y.times[k]=x:=⟨_,rfl⟩
       rw [hbd,htm] at hs0
       have htb:=y3 _ (List.getElem_mem hkt)
       rw [htm] at htb
       by_cases h4:bd=p.body
       · rw [if_pos h4] at hs0
         have hn:=a4l h3 hy (by rw [hp0];exact hs0)
         have hmin:(if (1000000:Int) < tm+1 then (1000000:Int) else tm+1)=min (tm+1) 1000000:=by split<;>omega
         have wt:IntKind.i64.wrap (tm+1)=tm+1:=wrap_i64 (by omega) (by omega)
         simp [num,tx,h3,hp0,N6,hk0,hk,hkb,hkt,hbd,htm,h4,wt,hmin,Q8]
         refine LoopNext.mk (i+1,⟨y.ids,y.times.set k (min (tm+1) 1000000),y.bodies⟩) ⟨h3,hn⟩ (by show L.length - (i+1) < L.length - i;omega) (Le.mk _ _ ?_ ?_)
         · simp [num,wi,tx,PV.kill]
         · simp [num,tx,PV.kill,MObj.kill,hkt,List.map_set]
       · rw [if_neg h4] at hs0
         have hn:=b2a h3 hy (by rw [hp0];exact hs0)
         rw [hn] at hR
         simp only [] at hR
         subst hR
         simp [num,tx,h3,hp0,N6,hk0,hk,hkb,hkt,hbd,htm,h4,Q8]
         refine a2g rfl rfl rfl (.inl rfl) hO ?_
         simp [num,tx,PV.shift,PV.shiftL,d5,PV.kill,PV.killL]
         rw [← hZ]
         exact a2f 70000 70001 70002 (by omega) (by omega) (by omega) (by simp) (by simp) (by simp [num]) (by simp) (by simp) (by simp)
   · have e:i=L.length:=by omega
     subst e
     rw [List.take_length] at hy
     rw [hy] at hR
     simp only [] at hR
     by_cases h4:4096 < y.ids.length
     · have h4':(4096:Int) < (y.ids.length:Int):=by omega
       rw [if_pos h4] at hR
       subst hR
       simp [num,tx,h4,h4']
       refine a2g rfl rfl rfl (.inl rfl) hO ?_
       simp [num,tx,PV.shift,PV.shiftL,d5,PV.kill,PV.killL]
       rw [← hZ]
       exact a2f 88000 88001 88002 (by omega) (by omega) (by omega) (by simp) (by simp) (by simp [num]) (by simp) (by simp) (by simp)
     · have h4':¬ (4096:Int) < (y.ids.length:Int):=by omega
       rw [if_neg h4] at hR
       subst hR
       simp [num,tx,h4,h4',PV.kill,PV.killL]
       rw [← hZ]
       exact a2f 14000 14001 14002 (by omega) (by omega) (by omega) (by simp) (by simp) (by simp [num]) (by simp) (by simp) (by simp)
end Go.Proofs
end
section
namespace Go.PW
variable [GF]
end Go.PW
namespace Go.Proofs
open Go.PW Go.KP
attribute [local simp] RV.cells RV.one PV.cells PV.solid PV.one F7 a6 N5 N7 RV.ofCells elems PV.killL
variable [GH]
end Go.Proofs
end
section
namespace Go.Proofs
open Go.PW Go.KP
attribute [local simp] RV.cells RV.one PV.cells PV.solid PV.one F7 a6 N5 N7 RV.ofCells elems PV.killL
variable [GF]
def bxM (a b c:List RV) (j:Nat):MObj:=if j=0 then .row 3 1 a else if j=1 then .row 3 1 b else .row 9 1 c
theorem c2d (x:LBox) (k:Nat) (h1:x.ids.length≤1048576) (h2:x.times.length≤1048576) (h3:x.bodies.length≤1048576) (hk:k < 1048576):S0 Tryz.prog 29 [.agg [.own 900,.own 901,.own 902],.val (num k)] (Y2 3 (bxM (x.ids.map num) (x.times.map num) (x.bodies.map tx))) (a1k 3)
 (.val (num ((k+x.ids.length+x.times.length+x.bodies.length:Nat):Int))) (Y2 3 (bxM ((mkL X8 1 x.ids.length k).map num) ((mkL X8 1 x.times.length (k+x.ids.length)).map num) ((mkL lmk 1 x.bodies.length (k+x.ids.length+x.times.length)).map tx))):=by
 have hin:∀ (O:Nat→MObj) i,(Y2 3 O i).live=true→900≤i∧i < 903:=fun O i hi=>by
  unfold Y2 at hi;split at hi
  · omega
  · cases hi
 have q1:=a2v x.ids k (by omega) h1
 have q2:=a2v x.times (k+x.ids.length) (by omega) h2
 have q3:=a6r x.bodies (k+x.ids.length+x.times.length) (by omega) h3
 rw [Nat.one_mul] at q1 q2 q3
 obtain ⟨a1,e1⟩:∃ l,(mkL X8 1 x.ids.length k).map num=l:=⟨_,rfl⟩
 obtain ⟨a2,e2⟩:∃ l,(mkL X8 1 x.times.length (k+x.ids.length)).map num=l:=⟨_,rfl⟩
 obtain ⟨a3,e3⟩:∃ l,(mkL lmk 1 x.bodies.length (k+x.ids.length+x.times.length)).map tx=l:=⟨_,rfl⟩
 rw [e1] at q1 ⊢
 rw [e2] at q2 ⊢
 rw [e3] at q3 ⊢
 obtain ⟨k3,f3⟩:∃ m,k+x.ids.length+x.times.length+x.bodies.length=m:=⟨_,rfl⟩
 obtain ⟨k2,f2⟩:∃ m,k+x.ids.length+x.times.length=m:=⟨_,rfl⟩
 obtain ⟨k1,f1⟩:∃ m,k+x.ids.length=m:=⟨_,rfl⟩
 rw [f3] at q3 ⊢
 rw [f2] at q2 q3
 rw [f1] at q1 q2
 refine a5l mixed ok29 (fun i hi=>?_) (fun i hi=>?_) ?_
 · have:=hin _ i hi
   simp [okId];omega
 · unfold a1k at hi
   simp at hi
   refine ⟨by omega,?_⟩
   unfold Y2
   rw [if_pos (by omega)]
   unfold bxM
   split
   · rfl
   · split<;>rfl
 unfold ir29
 rw [a8]
 simp [num,Y2,bxM]
 refine b8h (by simp [PV.plain1]) rfl rfl rfl q1 rfl ?_
 simp [num,Y2,bxM]
 refine b8h (by simp [PV.plain1]) rfl rfl rfl q2 rfl ?_
 simp [num,Y2,bxM]
 refine b8h (by simp [PV.plain1]) rfl rfl rfl q3 rfl ?_
 simp [num,Y2,bxM]
 refine ⟨_,Le.refl _,fun i=>i,by simp [P2,X5,num,PV.ren],Named.same (fun j hj=>?_) (fun j hj=>?_)⟩
 · have:=hin _ j hj
   have:j=900∨j=901∨j=902:=by omega
   rcases this with rfl | rfl | rfl<;>simp [Y2,bxM]
 · unfold a1k at hj
   simp at hj
   have:j=900∨j=901∨j=902:=by omega
   rcases this with rfl | rfl | rfl<;>rfl
theorem c14 (n1 n2 n3 k:Nat) (h1:n1≤1048576) (h2:n2≤1048576) (h3:n3≤1048576) (hk:k < 1048576):f9 Tryz.prog 30 [.val (.agg [.list 1 ((mkL X8 1 n1 k).map num),.list 1 ((mkL X8 1 n2 (k+n1)).map num),.list 1 ((mkL lmk 1 n3 (k+n1+n2)).map tx)]),.val (num k)] (.ret (.val (num ((k+n1+n2+n3:Nat):Int))) []) []:=by
 have q1:=b1m n1 k (by omega) h1
 have q2:=b1m n2 (k+n1) (by omega) h2
 have q3:=b2w n3 (k+n1+n2) (by omega) h3
 rw [Nat.one_mul] at q1 q2 q3
 obtain ⟨k3,f3⟩:∃ m,k+n1+n2+n3=m:=⟨_,rfl⟩
 obtain ⟨k2,f2⟩:∃ m,k+n1+n2=m:=⟨_,rfl⟩
 obtain ⟨k1,f1⟩:∃ m,k+n1=m:=⟨_,rfl⟩
 rw [f3] at q3 ⊢
 rw [f2] at q2 q3 ⊢
 rw [f1] at q1 q2 ⊢
 have g1:¬ (k1:Int) < 0:=by omega
 have g2:¬ (k2:Int) < 0:=by omega
 have g3:¬ (k3:Int) < 0:=by omega
 refine F4 mixed ok30 rfl (fun _=>rfl) ?_
 unfold ir30
 rw [a8]
 simp [b9,p6,K4,a7,b8,num]
 refine d4 rfl rfl (.inl rfl) q1 ?_
 simp [num,g1]
 refine d4 rfl rfl (.inl rfl) q2 ?_
 simp [num,g2]
 refine d4 rfl rfl (.inl rfl) q3 ?_
 simp [num,g3]
end Go.Proofs
end
section
namespace Go.Proofs
open Go.PW Go.KP
attribute [local simp] RV.cells RV.one PV.cells PV.solid PV.one F7 a6 N5 N7 RV.ofCells elems PV.killL
variable [GH]
def BR (m:MKey→Option (PV×Nat)) (d:Int→Bool):Prop:=(∀ n,(m (.i n)=none∧d n=false)∨(∃ b,m (.i n)=some (.val (.bool true),b)∧d n=true))∧∀ t,m (.s t)=none
theorem BR.put {m:MKey→Option (PV×Nat)} {d:Int→Bool} (h:BR m d) (k:Int) (b:Nat):BR (a07 m (.i k) (.val (.bool true)) b) (fun n=>d n || decide (n=k)):=by
 refine ⟨fun n=>?_,fun t=>?_⟩
 · by_cases hk:n=k
   · subst hk
     exact .inr ⟨b,by unfold a07;rw [if_pos rfl],by simp⟩
   · have:¬ MKey.i n=MKey.i k:=fun e=>hk (by cases e;rfl)
     have e:a07 m (.i k) (.val (.bool true)) b (.i n)=m (.i n):=by unfold a07;rw [if_neg this]
     rw [e]
     simpa [hk] using h.1 n
 · have:¬ MKey.s t=MKey.i k:=fun e=>by cases e
   unfold a07;rw [if_neg this];exact h.2 t
theorem BR.same {m:MKey→Option (PV×Nat)} {d d':Int→Bool} (h:BR m d) (e:∀ n,d n=d' n):BR m d':=⟨fun n=>by rw [← e n];exact h.1 n,h.2⟩
theorem c3j {b:LBox} {i:Nat} (h:i < b.ids.length):a24 b b.ids[i]=i↔b.ids[i]∉b.ids.take i:=by
 constructor
 · intro e hm
   obtain ⟨q,hq,he⟩:=List.mem_iff_getElem.1 hm
   rw [List.length_take] at hq
   rw [List.getElem_take] at he
   rcases a54 b.ids (fun x=>decide (x=b.ids[i])) with ⟨k1,_⟩ | ⟨k,hk,k1,k2⟩
   · unfold a24 at e;omega
   · have hki:k=i:=by unfold a24 at e;omega
     subst hki
     have:=List.find?_eq_some_iff_getElem.1 k2
     obtain ⟨_,j,hj,h1,h2⟩:=this
     by_cases hjq:j≤q
     · by_cases hjk:j=k
       · omega
       · have hjk':j < k:=by omega
         have:=h2
         have hd:b.ids[j]=b.ids[k]:=h1
         have:=a2n (l:=b.ids) (p:=fun x=>decide (x=b.ids[k])) hj (by simp [hd]) (fun r hr=>by
          have:=h2 r hr
          simpa using this)
         omega
     · have:=h2 q (by omega)
       simp [he] at this
 · intro hn
   exact a2n h (by simp) (fun k hk=>by
    have:b.ids[k]≠b.ids[i]:=fun e=>hn (List.mem_iff_getElem.2 ⟨k,by rw [List.length_take];omega,by rw [List.getElem_take];exact e⟩)
    simpa using this)
theorem c54 {b:LBox} {i:Nat} (h:i < b.ids.length) (h2:b.times.length=b.ids.length) (h3:b.bodies.length=b.ids.length):a4p b i=(decide (1≤b.ids[i]∧b.ids[i]≤1000000) && (decide (1≤b.times[i]∧b.times[i]≤1000000) && (decide ((b.bodies[i]).length≤8000) && decide (b.ids[i]∉b.ids.take i)))):=by
 unfold a4p
 simp only [List.getD_eq_getElem?_getD,List.getElem?_eq_getElem h,List.getElem?_eq_getElem (show i < b.times.length by omega),List.getElem?_eq_getElem (show i < b.bodies.length by omega),Option.getD_some]
theorem b30 {b:LBox} {i:Nat} (h:i < b.ids.length) (hb:a4p b i=false):(List.range b.ids.length).all (a4p b)=false:=by
 rw [Bool.eq_false_iff];intro ha
 have:=List.all_eq_true.1 ha i (List.mem_range.2 h)
 rw [hb] at this;cases this
theorem c_l11OK (b:LBox) (q1:b.ids.length≤1048576) (q2:b.times.length≤1048576) (q3:b.bodies.length≤1048576):f9 Tryz.prog 78 [.val (O9 b)] (.ret (.val (.bool (a2q b))) []) []:=by
 obtain ⟨R,hR⟩:∃ R,a2q b=R:=⟨_,rfl⟩
 rw [hR]
 unfold a2q at hR
 refine F4 mixed ok78 rfl (fun _=>rfl) ?_
 unfold ir78
 rw [a8]
 by_cases h1:b.ids.length≤4096
 rotate_left
 · have h1':¬ (b.ids.length:Int)≤4096:=by omega
   have h1n:(4096:Int) < (b.ids.length:Int):=by omega
   obtain rfl:R=false:=by rw [← hR,decide_eq_false h1];rfl
   simp [b9,p6,K4,a7,b8,O9,num,tx,h1',h1n]
 have h1':(b.ids.length:Int)≤4096:=by omega
 have h1n:¬ (4096:Int) < (b.ids.length:Int):=by omega
 by_cases h2:b.times.length=b.ids.length
 rotate_left
 · have h2':¬ (b.times.length:Int)=(b.ids.length:Int):=by omega
   obtain rfl:R=false:=by rw [← hR,decide_eq_false h2];simp
   simp [b9,p6,K4,a7,b8,O9,num,tx,h1',h1n,h2']
 by_cases h3:b.bodies.length=b.ids.length
 rotate_left
 · have h3':¬ (b.bodies.length:Int)=(b.ids.length:Int):=by omega
   obtain rfl:R=false:=by rw [← hR,decide_eq_false h3];simp
   simp [b9,p6,K4,a7,b8,O9,num,tx,h1',h1n,h2,h3']
 rw [decide_eq_true h1,decide_eq_true h2,decide_eq_true h3,Bool.true_and,Bool.true_and,Bool.true_and] at hR
 simp [b9,p6,K4,a7,b8,O9,num,tx,h1',h1n,h2,h3]
 refine P0 (X:=Nat) (fun i=>⟨Q0 [(1,.ptr 1 0),(3,.val (num b.ids.length)),(4,.val (num (i:Int)))],P6 [(1,.box [.val (.list 1 (b.ids.map num)),.val (.list 1 (b.times.map num)),.val (.list 1 (b.bodies.map tx))])]⟩)
  (fun i=>i≤b.ids.length∧∀ j,j < i→a4p b j=true) (fun i=>b.ids.length - i) 0 (Le.mk _ _ ?_ ?_) ⟨Nat.zero_le _,fun j h=>absurd h (Nat.not_lt_zero _)⟩ ?_
 · simp [num,tx,PV.kill]
 · simp [num,tx,MObj.kill,PV.kill,PV.killL,p8]
 · rintro i ⟨hi,hall⟩
   have wi:IntKind.i64.wrap ((i:Int)+1)=((i+1:Nat):Int):=by rw [wrap_i64 (by omega) (by omega)];omega
   by_cases h4:i < b.ids.length
   · have hbk:=c54 h4 h2 h3
     have hf:a4p b i=false→R=false:=fun h=>by rw [← hR];exact b30 h4 h
     have i2:i < b.times.length:=by omega
     have i3:i < b.bodies.length:=by omega
     have hsf:=c3j h4
     have hA:=c1d b b.ids[i] q1
     obtain ⟨id,hid⟩:∃ x,b.ids[i]=x:=⟨_,rfl⟩
     obtain ⟨tm,htm⟩:∃ x,b.times[i]=x:=⟨_,rfl⟩
     obtain ⟨bd,hbd⟩:∃ x,b.bodies[i]=x:=⟨_,rfl⟩
     rw [hid] at hA hsf
     rw [hid,htm,hbd] at hbk
     unfold O9 at hA
     simp [num,tx,h4,i2,i3,hid,htm,hbd]
     refine R9 rfl rfl (.inl rfl) (a4i .i64 id 1 1000000) ?_
     by_cases h5:1≤id∧id≤1000000
     rotate_left
     · rw [decide_eq_false h5]
       obtain rfl:R=false:=hf (by rw [hbk,decide_eq_false h5];rfl)
       simp [num,tx]
     rw [decide_eq_true h5]
     simp [num,tx,h4,i2,i3,hid,htm,hbd]
     refine R9 rfl rfl (.inl rfl) (a4i .i64 tm 1 1000000) ?_
     by_cases h6:1≤tm∧tm≤1000000
     rotate_left
     · rw [decide_eq_false h6]
       obtain rfl:R=false:=hf (by rw [hbk,decide_eq_false h6];simp)
       simp [num,tx]
     rw [decide_eq_true h6]
     by_cases h7:bd.length≤8000
     rotate_left
     · have h7':¬ (bd.length:Int)≤8000:=by omega
       have h7n:(8000:Int) < (bd.length:Int):=by omega
       obtain rfl:R=false:=hf (by rw [hbk,decide_eq_false h7];simp)
       simp [num,tx,h4,i2,i3,hid,htm,hbd,b7,h7',h7n]
     have h7':(bd.length:Int)≤8000:=by omega
     have h7n:¬ (8000:Int) < (bd.length:Int):=by omega
     simp [num,tx,h4,i2,i3,hid,htm,hbd,b7,h7',h7n]
     refine R9 rfl rfl (.inl rfl) hA ?_
     by_cases h8:id∈b.ids.take i
     · have h8':¬ a24 b id=(i:Int):=fun h=>(hsf.1 h) h8
       obtain rfl:R=false:=hf (by rw [hbk];simp [h8])
       simp [num,tx,h8']
     · have h8':a24 b id=(i:Int):=hsf.2 h8
       rw [h8']
       simp [num,tx]
       refine LoopNext.mk (i+1) ⟨h4,fun j hj=>?_⟩ (by omega) (Le.mk _ _ ?_ ?_)
       · by_cases e:j=i
         · subst e;rw [hbk];simp [h5,h6,h7,h8]
         · exact hall j (by omega)
       · simp [num,wi,tx]
       · simp [num,tx]
   · have e:i=b.ids.length:=by omega
     subst e
     obtain rfl:R=true:=by
      rw [← hR,List.all_eq_true]
      intro j hj
      exact hall j (List.mem_range.1 hj)
     simp [num,tx]
end Go.Proofs
end
section
namespace Go.Proofs
open Go.PW Go.KP
attribute [local simp] RV.cells RV.one PV.cells PV.solid PV.one F7 a6 N5 N7 RV.ofCells elems PV.killL
variable [GH]
theorem i_BoxOK (b:LBox) (q1:b.ids.length≤1048576) (q2:b.times.length≤1048576) (q3:b.bodies.length≤1048576):f9 Tryz.prog 82 [.val (O9 b)] (.ret (.val (.bool (a2q b))) []) []:=by
 obtain ⟨R,hR⟩:∃ R,a2q b=R:=⟨_,rfl⟩
 rw [hR]
 unfold a2q at hR
 refine F4 mixed ok82 rfl (fun _=>rfl) ?_
 unfold ir82
 rw [a8]
 by_cases h1:b.ids.length≤4096
 rotate_left
 · have h1':¬ (b.ids.length:Int)≤4096:=by omega
   have h1n:(4096:Int) < (b.ids.length:Int):=by omega
   obtain rfl:R=false:=by rw [← hR,decide_eq_false h1];rfl
   simp [b9,p6,K4,a7,b8,O9,num,tx,h1',h1n]
 have h1':(b.ids.length:Int)≤4096:=by omega
 have h1n:¬ (4096:Int) < (b.ids.length:Int):=by omega
 by_cases h2:b.times.length=b.ids.length
 rotate_left
 · have h2':¬ (b.times.length:Int)=(b.ids.length:Int):=by omega
   obtain rfl:R=false:=by rw [← hR,decide_eq_false h2];simp
   simp [b9,p6,K4,a7,b8,O9,num,tx,h1',h1n,h2']
 by_cases h3:b.bodies.length=b.ids.length
 rotate_left
 · have h3':¬ (b.bodies.length:Int)=(b.ids.length:Int):=by omega
   obtain rfl:R=false:=by rw [← hR,decide_eq_false h3];simp
   simp [b9,p6,K4,a7,b8,O9,num,tx,h1',h1n,h2,h3']
 rw [decide_eq_true h1,decide_eq_true h2,decide_eq_true h3,Bool.true_and,Bool.true_and,Bool.true_and] at hR
 simp [b9,p6,K4,a7,b8,O9,num,tx,h1',h1n,h2,h3]
 refine P0 (X:=Nat×Nat×(MKey→Option (PV×Nat))) (fun q=>⟨Q0 [(1,.ptr 1 0),(3,.own 28),(30,.val (.list 1 (b.ids.map num))),(31,.val (num b.ids.length)),(32,.val (num (q.1:Int)))],P6 [(1,.box [.val (.list 1 (b.ids.map num)),.val (.list 1 (b.times.map num)),.val (.list 1 (b.bodies.map tx))]),(28,.map false q.2.1 q.2.2)]⟩)
  (fun q=>q.1≤b.ids.length∧(∀ j,j < q.1→a4p b j=true)∧BR q.2.2 (fun n=>decide (n∈b.ids.take q.1))) (fun q=>b.ids.length - q.1) (0,0,fun _=>none) (Le.mk _ _ ?_ ?_) ⟨Nat.zero_le _,fun j h=>absurd h (Nat.not_lt_zero _),⟨fun n=>.inl ⟨rfl,by simp⟩,fun t=>rfl⟩⟩ ?_
 · simp [num,tx,PV.kill]
 · simp [num,tx,MObj.kill,PV.kill,PV.killL,p8]
 · rintro ⟨i,clk,m⟩ ⟨hi,hall,hm⟩
   replace hi:i≤b.ids.length:=hi
   replace hall:∀ j,j < i→a4p b j=true:=hall
   replace hm:BR m (fun n=>decide (n∈b.ids.take i)):=hm
   have wi:IntKind.i64.wrap ((i:Int)+1)=((i+1:Nat):Int):=by rw [wrap_i64 (by omega) (by omega)];omega
   by_cases h4:i < b.ids.length
   · have hbk:=c54 h4 h2 h3
     have hf:a4p b i=false→R=false:=fun h=>by rw [← hR];exact b30 h4 h
     have i2:i < b.times.length:=by omega
     have i3:i < b.bodies.length:=by omega
     have hst:∀ n,decide (n∈b.ids.take (i+1))=(decide (n∈b.ids.take i) || decide (n=b.ids[i])):=fun n=>by
      rw [List.take_add_one,List.getElem?_eq_getElem h4,Option.toList_some,Bool.eq_iff_iff]
      simp only [List.mem_append,List.mem_singleton,Bool.or_eq_true,decide_eq_true_eq]
     obtain ⟨id,hid⟩:∃ x,b.ids[i]=x:=⟨_,rfl⟩
     obtain ⟨tm,htm⟩:∃ x,b.times[i]=x:=⟨_,rfl⟩
     obtain ⟨bd,hbd⟩:∃ x,b.bodies[i]=x:=⟨_,rfl⟩
     rw [hid,htm,hbd] at hbk
     rw [hid] at hst
     rcases hm.1 id with ⟨hnone,hdf⟩ | ⟨bb,hsome,hdt⟩
     rotate_left
     · have h8:id∈b.ids.take i:=of_decide_eq_true hdt
       obtain rfl:R=false:=hf (by rw [hbk];simp [h8])
       simp [num,tx,h4,i2,i3,hid,htm,hbd,hsome]
     have h8:id∉b.ids.take i:=of_decide_eq_false hdf
     simp [num,tx,h4,i2,i3,hid,htm,hbd,hnone]
     refine d4 rfl rfl (.inl rfl) (Y1 id 1 1000000) ?_
     by_cases h5:1≤id∧id≤1000000
     rotate_left
     · rw [decide_eq_false h5]
       obtain rfl:R=false:=hf (by rw [hbk,decide_eq_false h5];rfl)
       simp [num,tx]
     rw [decide_eq_true h5]
     simp [num,tx,h4,i2,i3,hid,htm,hbd,hnone]
     refine d4 rfl rfl (.inl rfl) (Y1 tm 1 1000000) ?_
     by_cases h6:1≤tm∧tm≤1000000
     rotate_left
     · rw [decide_eq_false h6]
       obtain rfl:R=false:=hf (by rw [hbk,decide_eq_false h6];simp)
       simp [num,tx]
     rw [decide_eq_true h6]
     by_cases h7:bd.length≤8000
     rotate_left
     · have h7':¬ (bd.length:Int)≤8000:=by omega
       have h7n:(8000:Int) < (bd.length:Int):=by omega
       obtain rfl:R=false:=hf (by rw [hbk,decide_eq_false h7];simp)
       simp [num,tx,h4,i2,i3,hid,htm,hbd,hnone,b7,h7',h7n]
     have h7':(bd.length:Int)≤8000:=by omega
     have h7n:¬ (8000:Int) < (bd.length:Int):=by omega
     simp [num,tx,h4,i2,i3,hid,htm,hbd,hnone,b7,h7',h7n]
     refine LoopNext.mk (i+1,clk+1,a07 m (.i id) (.val (.bool true)) clk) ⟨h4,fun j hj=>?_,(hm.put id clk).same fun n=>(hst n).symm⟩ (by show b.ids.length - (i+1) < b.ids.length - i;omega) (Le.mk _ _ ?_ ?_)
     · by_cases e:j=i
       · subst e;rw [hbk];simp [h5,h6,h7,h8]
       · exact hall j (by simp only at hj;omega)
     · simp [num,wi,tx]
     · simp [num,tx]
   · have e:i=b.ids.length:=by omega
     subst e
     obtain rfl:R=true:=by
      rw [← hR,List.all_eq_true]
      intro j hj
      exact hall j (List.mem_range.1 hj)
     simp [num,tx]
def a1p (b:LBox) (w:LWire):LBox×Int:=if a2q b then rcv b w else (c1f,1)
theorem b57 (b:LBox) (w:LWire):BJ (a1p b w).1:=by
 unfold a1p
 split
 · rename_i h
   obtain ⟨h1,h2,h3⟩:=a8w h
   exact rcv_BJ ⟨h1,h2,h3⟩
 · exact BJ_zero
theorem c3g (b:LBox) (w:LWire) (hw:c3s w) (q1:b.ids.length≤1048576) (q2:b.times.length≤1048576) (q3:b.bodies.length≤1048576):f9 Tryz.prog 32 [.val (O9 b),.val (P3 w)] (.ret (.tup [.val (O9 (a1p b w).1),.val (num (a1p b w).2)]) []) []:=by
 have hJ:=b57 b w
 obtain ⟨R,hR⟩:∃ R,a1p b w=R:=⟨_,rfl⟩
 rw [hR] at hJ ⊢
 unfold a1p at hR
 obtain ⟨Z,hZ⟩:∃ Z,a4s [.c 4 true 3,.t 5] (.tup [.val (O9 R.1),.val (num R.2)])=Z:=⟨_,rfl⟩
 refine F4 mixed ok32 rfl (fun _=>rfl) ?_
 rw [hZ]
 unfold ir32
 rw [a8]
 have hO:=c_l11OK b q1 q2 q3
 unfold O9 at hO
 simp [b9,p6,K4,a7,b8,O9,P3,num,tx]
 refine d4 rfl rfl (.inl rfl) hO ?_
 cases hok:a2q b with
 | false=>
  rw [hok,if_neg (by simp)] at hR
  subst hR
  simp [num,tx,PV.kill,PV.killL]
  rw [← hZ]
  simp
  exact b0q (x1:=.emp 1) (x2:=.emp 1) (x3:=.emp 1) (by simp) (by simp [num,tx]) (by simp [num]) rfl rfl rfl
 | true=>
  rw [hok,if_pos rfl] at hR
  obtain ⟨h1,h2,h3⟩:=a8w hok
  have hC:=b5d b w hw h1 (by omega)
  rw [hR] at hC
  have hW:=c5v R.1 (by have:=hJ.2.1;omega) (by rw [hJ.1.1];have:=hJ.2.1;omega) (by rw [hJ.1.2.1];have:=hJ.2.1;omega)
  unfold O9 P3 at hC
  unfold O9 at hW
  simp [num,tx,PV.kill,PV.killL]
  refine T0 rfl rfl (.inl rfl) hC ?_
  simp [num,tx,PV.kill,PV.killL]
  refine d4 rfl rfl (.inl rfl) hW ?_
  simp [num,tx,PV.kill,PV.killL]
  rw [← hZ]
  simp
  exact b0q (x1:=.val (.list 1 (R.1.ids.map num))) (x2:=.val (.list 1 (R.1.times.map num))) (x3:=.val (.list 1 (R.1.bodies.map tx))) (by simp) (by simp [num,tx]) (by simp [num]) rfl rfl rfl
theorem c2v (b:LBox) (w:LWire) (q1:b.ids.length≤1048576) (q2:b.times.length≤1048576) (q3:b.bodies.length≤1048576):f9 Tryz.prog 34 [.val (O9 b),.val (P3 w)] (.ret (.tup [.agg [.own 0,.own 1,.own 2],.val (num (a1p b w).2)]) [⟨3,1,(a1p b w).1.ids.map num⟩,⟨3,1,(a1p b w).1.times.map num⟩,⟨9,1,(a1p b w).1.bodies.map tx⟩]) []:=by
 obtain ⟨R,hR⟩:∃ R,a1p b w=R:=⟨_,rfl⟩
 rw [hR]
 unfold a1p at hR
 obtain ⟨Z,hZ⟩:∃ Z,b73 [.c 4 true 3,.t 5] (fun x y z=>.tup [.agg [.own x,.own y,.own z],.val (num R.2)]) ⟨3,1,R.1.ids.map num⟩ ⟨3,1,R.1.times.map num⟩ ⟨9,1,R.1.bodies.map tx⟩=Z:=⟨_,rfl⟩
 refine a8e (mk:=fun x y z=>.tup [.agg [.own x,.own y,.own z],.val (num R.2)]) (r1:=⟨3,1,R.1.ids.map num⟩) (r2:=⟨3,1,R.1.times.map num⟩) (r3:=⟨9,1,R.1.bodies.map tx⟩) mixed ok34 rfl (fun _=>rfl) ?_
 rw [hZ]
 have hO:=i_BoxOK b q1 q2 q3
 unfold O9 at hO
 unfold ir34
 rw [a8]
 simp [b9,p6,K4,a7,b8,O9,P3,num,tx]
 refine d4 rfl rfl (.inl rfl) hO ?_
 cases hok:a2q b with
 | false=>
  rw [hok,if_neg (by simp)] at hR
  subst hR
  simp [num,tx,PV.kill,PV.killL]
  rw [← hZ]
  exact c10 1 (by omega) (by omega) (by simp) (by simp) (by simp [num])
 | true=>
  rw [hok,if_pos rfl] at hR
  obtain ⟨h1,h2,h3⟩:=a8w hok
  have hC:=c2s b w h1 (by omega)
  rw [hR] at hC
  unfold O9 P3 at hC
  simp [num,tx,PV.kill,PV.killL]
  refine a2g rfl rfl rfl (.inl rfl) hC ?_
  simp [num,tx,PV.shift,PV.shiftL,d5,PV.kill,PV.killL]
  rw [← hZ]
  exact a2f 13000 13001 13002 (by omega) (by omega) (by omega) (by simp) (by simp) (by simp [num]) (by simp) (by simp) (by simp)
end Go.Proofs
end
section
namespace Go.Proofs
open Go.PW Go.KP
attribute [local simp] RV.cells RV.one PV.cells PV.solid PV.one F7 a6 N5 N7 RV.ofCells elems PV.killL
variable [GH]
attribute [local simp] a4q a9w b6i b6j b6g b6h a13 b1w a67 b74 b2i b2j a7m dK_lo dK_DN dM_lo dM_DN inR K2
def T2 (k i:Nat):Bool:=U4 k i || S4 k i
def G2 (b:LBox) (w:LWire) (k i:Nat):MObj:=if k=10 then Y3 w k i else Z0 b k i
theorem T1BW {k i:Nat} (h:U4 k i=true):S4 k i=false∧k≠10:=by
 unfold U4 at h
 unfold S4
 simp at h ⊢
 omega
theorem T1WB {k i:Nat} (h:S4 k i=true):U4 k i=false∧k=10:=by
 unfold S4 at h
 unfold U4
 simp at h ⊢
 omega
theorem G2_on (b:LBox) (w:LWire) (k i:Nat) {S:Nat→Bool}:(G2 b w k i).onT S:=by
 unfold G2;split
 · exact a5z ..
 · exact a7v ..
theorem G2_bx (b:LBox) (w:LWire) (k i:Nat):∀ cs,G2 b w k i≠.box cs:=by
 unfold G2;split
 · exact a8v w k i
 · exact b06 b k i
theorem bJ_bd {b:LBox} (h:BJ b):a16 1048576 b:=by
 obtain ⟨⟨h1,h2,_⟩,h3,h4⟩:=h
 exact ⟨by omega,by omega,by omega,fun s hs=>Nat.le_trans (h4 s hs) (by omega)⟩
theorem c11 {K:Kx (PExit→St→Prop)} (b:LBox) (w:LWire) (hsb:a16 1048576 b) (hsw:a0v 1048576 w) (hz1:b2k b≤1048576) (hz2:a9c w≤1048576) (st:St)
 (e2:st.env 2=.ptr 2 0) (e3:st.env 3=.ptr 3 0) (e6:st.env 6=.ptr 6 0) (e7:st.env 7=.val (num (a1p b w).2))
 (m2:st.mem 2=.box [.val (.list 1 (b.ids.map num)),.val (.list 1 (b.times.map num)),.val (.list 1 (b.bodies.map tx))])
 (m3:st.mem 3=.box [.val (num w.at_),.val (num w.status),.val (tx w.group),.val (tx w.url),.val (.list 1 (w.ids.map num)),.val (tx w.body),.val (.bool w.lost)])
 (m6:st.mem 6=.box [.val (.list 1 ((a1p b w).1.ids.map num)),.val (.list 1 ((a1p b w).1.times.map num)),.val (.list 1 ((a1p b w).1.bodies.map tx))])
 (hK:∀ st':St,st'.env 4=.val (.bool true)→K.k .ret st'):EC Tryz.prog ir6_from7 st (K:=K):=by
 have hJ:=b57 b w
 have hbd:=bJ_bd hJ
 have hcb:a4e b≤b2k b:=by
  have:=zS_len List.length b.bodies
  unfold a4e b2k;omega
 have hcw:a2x w≤a9c w:=by unfold a2x a9c;omega
 have hmkb:=b9t b 1 hsb (by omega)
 obtain ⟨mb,hmb⟩:∃ m,1+a4e b=m:=⟨_,rfl⟩
 rw [hmb] at hmkb
 have hmkw:=b7m w mb hsw (by omega)
 obtain ⟨mw,hmw⟩:∃ m,mb+a2x w=m:=⟨_,rfl⟩
 rw [hmw] at hmkw
 have hne1:¬ (mw:Int) < 0:=by omega
 have hip:=c2v b w hsb.1 hsb.2.1 hsb.2.2.1
 obtain ⟨⟨B,c0⟩,hR⟩:∃ R,a1p b w=R:=⟨_,rfl⟩
 rw [hR] at hip hJ hbd e7 m6
 simp only [] at hip e7 m6 hbd
 have l1:B.ids.length≤1048576:=hbd.1
 have l2:B.times.length≤1048576:=hbd.2.1
 have l3:B.bodies.length≤1048576:=hbd.2.2.1
 have hm:=c2d B 1 l1 l2 l3 (by omega)
 have hh:=c14 B.ids.length B.times.length B.bodies.length 1 l1 l2 l3 (by omega)
 obtain ⟨m1,hm1⟩:∃ m,1+B.ids.length+B.times.length+B.bodies.length=m:=⟨_,rfl⟩
 rw [hm1] at hm hh
 have hne2:¬ (m1:Int) < 0:=by omega
 have heq:=c1a B hbd
 have hfl1:=a5b (f:=num) (fun _=>rfl) B.ids
 have hfl2:=a5b (f:=num) (fun _=>rfl) B.times
 have hfl3:=a5b (f:=tx) (fun _=>rfl) B.bodies
 unfold O9 at heq
 obtain ⟨w1,hw1⟩:∃ l,B.ids.map num=l:=⟨_,rfl⟩
 obtain ⟨w2,hw2⟩:∃ l,B.times.map num=l:=⟨_,rfl⟩
 obtain ⟨w3,hw3⟩:∃ l,B.bodies.map tx=l:=⟨_,rfl⟩
 obtain ⟨r1,hr1⟩:∃ l,(mkL X8 1 B.ids.length 1).map num=l:=⟨_,rfl⟩
 obtain ⟨r2,hr2⟩:∃ l,(mkL X8 1 B.times.length (1+B.ids.length)).map num=l:=⟨_,rfl⟩
 obtain ⟨r3,hr3⟩:∃ l,(mkL lmk 1 B.bodies.length (1+B.ids.length+B.times.length)).map tx=l:=⟨_,rfl⟩
 rw [hw1,hw2,hw3] at hip heq m6
 rw [hw1,hw2,hw3,hr1,hr2,hr3] at hm
 rw [hr1,hr2,hr3] at hh
 rw [hw1] at hfl1
 rw [hw2] at hfl2
 rw [hw3] at hfl3
 unfold ir6_from7
 simp [num,tx,a6,e2,e3,e6,e7,m2,m3,m6]
 refine b3y (rs:=[O9 b]) U4 rfl (c5j b hsb) (fun k j hk hl=>⟨b4r b k j hl,a7v b k j,b06 b k j⟩) (b18 b) ?_
 simp [num,tx,a6,e2,e3,e6,e7,m2,m3,m6,a15,U4,PV.kill,PV.killL,Z0,a1q]
 refine b3y (rs:=[P3 w]) S4 rfl (c26 w hsw) (fun k j hk hl=>⟨b05 w k j hl,a5z w k j,a8v w k j⟩) (a87 w) ?_
 simp [num,tx,a6,e2,e3,e6,e7,m2,m3,m6,a15,a1h,U4,S4,PV.kill,PV.killL,Z0,a1q,Y3,a1z]
 refine c5r (rs:=[O9 b,P3 w]) T2 (G2 b w) hip rfl (fun k j hk hT=>?_) (fun k j hk=>⟨G2_on b w k j,G2_bx b w k j⟩) (fun M hM j hj=>?_) ?_ rfl (by simp [PV.flat,PV.flat.go,RV.flat,num]) ?_ (by omega) (by simp) ?_
 · unfold T2 at hT
   cases hB:U4 k j with
   | true => 
    obtain ⟨hW,h10⟩:=T1BW hB
    simp [hk,hB,hW,G2,h10,a60]
   | false=>
    rw [hB,Bool.false_or] at hT
    obtain ⟨_,rfl⟩:=T1WB hT
    simp [hk,hB,hT,G2,a42]
 · have:j=0∨j=1:=by simp at hj;omega
   rcases this with rfl | rfl
   · exact b4b b M fun k j hk hB=>by
      rw [hM k j hk (by simp [T2,hB])]
      unfold G2;rw [if_neg (T1BW hB).2]
   · exact b0r w M fun k j hk hB=>by
      rw [hM k j hk (by simp [T2,hB])]
      unfold G2;rw [if_pos (T1WB hB).2]
 · intro q hq
   simp only [List.mem_cons,List.not_mem_nil,or_false] at hq
   rcases hq with rfl | rfl
   · exact b17 b 0 fun k h=>by rcases h with rfl | rfl | rfl<;>simp [T2,U4]
   · exact a86 w 0 fun k h=>by subst h;simp [T2,S4]
 · intro q hq x hx
   simp only [List.mem_cons,List.not_mem_nil,or_false] at hq
   rcases hq with rfl | rfl | rfl
   · exact hfl1 x hx
   · exact hfl2 x hx
   · exact hfl3 x hx
 simp [a6,tx,num,PV.shift,PV.shiftL,d5,PV.kill,PV.killL,e2,e3,e6,e7,m2,m3,m6,T2,U4,S4]
 refine d4 rfl rfl (.inr rfl) heq ?_
 simp [a6,tx,num,PV.shift,PV.shiftL,d5,PV.kill,PV.killL,e2,e3,e6,e7,m2,m3,m6,T2,U4,S4]
 refine R9 rfl rfl (.inl rfl) (b36 b hsb) ?_
 simp [a6,tx,num,PV.shift,PV.shiftL,d5,PV.kill,PV.killL,e2,e3,e6,e7,m2,m3,m6,T2,U4,S4]
 refine c5r (rs:=[O9 b,O9 b]) U4 (Z0 b) (c1a b hsb) rfl (fun k j hk hT=>?_) (fun k j hk=>⟨a7v b k j,b06 b k j⟩) (fun M hM j hj=>?_) ?_ rfl rfl ?_ (by omega) (by simp) ?_
 · obtain ⟨hW,h10⟩:=T1BW hT
   simp [hk,hT,hW,T2,a60]
 · have:j=0∨j=1:=by simp at hj;omega
   rcases this with rfl | rfl
   · exact b4b b M hM
   · exact .val _
 · intro q hq
   simp only [List.mem_cons,List.not_mem_nil,or_false] at hq
   rcases hq with rfl | rfl
   · exact b18 b
   · exact a0m
 · intro r hr;cases hr
 simp [a6,tx,num,PV.shift,PV.shiftL,d5,PV.kill,PV.killL,e2,e3,e6,e7,m2,m3,m6,T2,U4,S4]
 refine R9 rfl rfl (.inl rfl) (b0a w hsw) ?_
 simp [a6,tx,num,PV.shift,PV.shiftL,d5,PV.kill,PV.killL,e2,e3,e6,e7,m2,m3,m6,T2,U4,S4]
 refine c5r (rs:=[P3 w,P3 w]) S4 (Y3 w) (c5d w hsw) rfl (fun k j hk hT=>?_) (fun k j hk=>⟨a5z w k j,a8v w k j⟩) (fun M hM j hj=>?_) ?_ rfl rfl ?_ (by omega) (by simp) ?_
 · obtain ⟨hB,rfl⟩:=T1WB hT
   simp [hk,hT,hB,T2,a42]
 · have:j=0∨j=1:=by simp at hj;omega
   rcases this with rfl | rfl
   · exact b0r w M hM
   · exact .val _
 · intro q hq
   simp only [List.mem_cons,List.not_mem_nil,or_false] at hq
   rcases hq with rfl | rfl
   · exact a87 w
   · exact a0m
 · intro r hr;cases hr
 simp [a6,tx,num,PV.shift,PV.shiftL,d5,PV.kill,PV.killL,e2,e3,e6,e7,m2,m3,m6,T2,U4,S4]
 refine callU (G:=Z0 b) U4 hmkb ?_ (fun k j hk hl=>⟨b4r b k j hl,?_,a7v b k j⟩) ?_
 · intro q hq
   simp only [List.mem_cons,List.not_mem_nil,or_false] at hq
   rcases hq with rfl | rfl
   · exact b18 b
   · exact a0m
 · have hT:=b4r b k j hl
   obtain ⟨hW,h10⟩:=T1BW hT
   simp [hk,hT,hW,T2,a60]
 simp [a6,tx,num,PV.shift,PV.shiftL,d5,PV.kill,PV.killL,e2,e3,e6,e7,m2,m3,m6,T2,U4,S4]
 refine callU (G:=Y3 w) S4 hmkw ?_ (fun k j hk hl=>⟨b05 w k j hl,?_,a5z w k j⟩) ?_
 · intro q hq
   simp only [List.mem_cons,List.not_mem_nil,or_false] at hq
   rcases hq with rfl | rfl
   · exact a87 w
   · exact a0m
 · have hT:=b05 w k j hl
   obtain ⟨hB,rfl⟩:=T1WB hT
   simp [hk,hT,hB,T2,a42]
 simp [a6,tx,num,PV.shift,PV.shiftL,d5,PV.kill,PV.killL,e2,e3,e6,e7,m2,m3,m6,T2,U4,S4,hne1]
 refine d4 rfl rfl (.inr rfl) heq ?_
 simp [a6,tx,num,PV.shift,PV.shiftL,d5,PV.kill,PV.killL,e2,e3,e6,e7,m2,m3,m6,T2,U4,S4,hne1,hne2]
 refine c5s [43000,43001,43002] (bxM w1 w2 w3) (bxM r1 r2 r3) (bxM w1 w2 w3) (bxM r1 r2 r3) (by simp) (by simp) (ps0:=[.agg [.own 900,.own 901,.own 902],.val (num 1)]) rfl (fun j hj=>?_) (fun j hj=>?_) (fun j hj=>?_) (fun j hj=>?_) (fun j hj _=>?_) (fun j cs hj h=>?_) hm ?_
 · have:j=0∨j=1∨j=2:=by simp at hj;omega
   rcases this with rfl | rfl | rfl<;>simp [bxM]
 · unfold bxM;split<;>(try split)<;>rfl
 · unfold bxM;split<;>(try split)<;>rfl
 · unfold bxM;split<;>(try split)<;>rfl
 · unfold bxM;split<;>(try split)<;>rfl
 · unfold bxM at h;split at h<;>(try split at h)<;>cases h
 simp [a6,tx,num,PV.shift,PV.shiftL,d5,PV.kill,PV.killL,e2,e3,e6,e7,m2,m3,m6,T2,U4,S4,bxM,b00,a90,PV.ren,hne2]
 refine d4 rfl rfl (.inr rfl) hh ?_
 simp [a6,tx,num,PV.shift,PV.shiftL,d5,PV.kill,PV.killL,e2,e3,e6,e7,m2,m3,m6,T2,U4,S4,a90,hne2]
 repeat' with_reducible apply And.intro
 all_goals
  refine d4 rfl rfl (.inl rfl) (b36 b hsb) ?_
  simp [a6,tx,num,PV.shift,PV.shiftL,d5,PV.kill,PV.killL,e2,e3,e6,e7,m2,m3,m6,T2,U4,S4,a90]
  repeat' with_reducible apply And.intro
  all_goals
   refine d4 rfl rfl (.inl rfl) (b0a w hsw) ?_
   simp [a6,tx,num,PV.shift,PV.shiftL,d5,PV.kill,PV.killL,e2,e3,e6,e7,m2,m3,m6,T2,U4,S4,a90]
   repeat' with_reducible apply And.intro
   all_goals
    refine a2g rfl rfl rfl (.inl rfl) hip ?_
    simp [a6,tx,num,PV.shift,PV.shiftL,d5,PV.kill,PV.killL,e2,e3,e6,e7,m2,m3,m6,T2,U4,S4,a90]
    refine d4 rfl rfl (.inr rfl) heq ?_
    simp [a6,tx,num,PV.shift,PV.shiftL,d5,PV.kill,PV.killL,e2,e3,e6,e7,m2,m3,m6,T2,U4,S4,a90]
    refine d4 rfl rfl (.inr rfl) hh ?_
    simp [a6,tx,num,PV.shift,PV.shiftL,d5,PV.kill,PV.killL,e2,e3,e6,e7,m2,m3,m6,T2,U4,S4,a90,hne2]
    exact hK _ (by simp)
theorem b6t (b:LBox) (w:LWire) (hb:a16 9223372036854775807 b) (hw:a0v 9223372036854775807 w) (hst:c3s w):f9 Tryz.prog 6 [.val (O9 b),.val (P3 w)] (.ret (.val (.bool true)) []) []:=by
 refine F4 mixed ok6 rfl (fun _=>rfl) ?_
 unfold ir6
 rw [a8]
 have hz0:=g_szBox b 1048576 (by omega) (by omega) hb
 unfold O9 at hz0
 simp [b9,p6,K4,a7,b8,O9,P3,tx,num,a6]
 refine d4 rfl rfl (.inl rfl) hz0 ?_
 by_cases hz:cut 1048576 (b2k b) < 0
 · simp [num,hz]
 obtain ⟨hz1,hz2⟩:=b3w hz (by omega)
 have hsb:a16 1048576 b:=zBox_bd (by omega)
 have hy0:=c5c w (cut 1048576 (b2k b)) (by omega) (by omega) hw
 unfold P3 at hy0
 simp [tx,num,a6,hz]
 refine d4 rfl rfl (.inl rfl) hy0 ?_
 by_cases hy:cut (cut 1048576 (b2k b)) (a9c w) < 0
 · simp [num,hy]
 obtain ⟨hy1,hy2⟩:=b3w hy (by omega)
 have hsw:a0v 1048576 w:=c3n (by omega)
 have hsp:=c3g b w hst hsb.1 hsb.2.1 hsb.2.2.1
 simp [tx,num,a6,hy]
 repeat' with_reducible apply And.intro
 all_goals
  refine d4 rfl rfl (.inl rfl) (b36 b hsb) ?_
  simp [tx,num,a6]
  repeat' with_reducible apply And.intro
  all_goals
   refine d4 rfl rfl (.inl rfl) (b0a w hsw) ?_
   simp [tx,num,a6]
   repeat' with_reducible apply And.intro
   all_goals
    refine T0 rfl rfl (.inl rfl) hsp ?_
    simp [tx,num,a6,O9,PV.kill,PV.killL]
    refine c11 b w hsb hsw (by omega) (by omega) _ ?_ ?_ ?_ ?_ ?_ ?_ ?_ (fun st' h4=>?_)
    all_goals first
     | (simp [h4];done)
     | (simp [num,tx,PV.kill,PV.killL];done)
end Go.Proofs
end
