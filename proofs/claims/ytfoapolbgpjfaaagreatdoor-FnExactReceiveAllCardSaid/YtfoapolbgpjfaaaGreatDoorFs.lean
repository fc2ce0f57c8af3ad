/- Fs: merged out of KXm, KXo, KXba, KXbb, KXbc, KXbd, KXbe, KXbf, KXbg, KXbh, KXbj, KXbl, KXbm, KXbn, KXbo, KXbp, KXbq, KXbr. -/
import Derived.Test.YtfoapolbgpjfaaaGreatDoorPWw
import Derived.Test.YtfoapolbgpjfaaaGreatDoorCa
import Derived.Test.YtfoapolbgpjfaaaGreatDoorAc
import Derived.Test.YtfoapolbgpjfaaaGreatDoorBa
import Derived.Test.YtfoapolbgpjfaaaGreatDoorFo
import Derived.Test.YtfoapolbgpjfaaaGreatDoorPWae
import Derived.Test.YtfoapolbgpjfaaaGreatDoorPWaf
import Derived.Test.YtfoapolbgpjfaaaGreatDoorPWag
import Derived.Test.YtfoapolbgpjfaaaGreatDoorPWak
import Derived.Test.YtfoapolbgpjfaaaGreatDoorEa
import Derived.Test.YtfoapolbgpjfaaaGreatDoorPWab
import Derived.Test.YtfoapolbgpjfaaaGreatDoorPWai
set_option linter.unusedSectionVars false
set_option linter.unusedSimpArgs false
set_option linter.unusedVariables false
set_option maxRecDepth 100000
section
namespace Go.Proofs
open Go.PW Go.KP
attribute [local simp] RV.cells RV.one PV.cells PV.solid PV.one G5 a8 O1 O3 RV.ofCells elems PV.killL
variable [GF]
theorem a23 (k:Nat) (hk:k < 1099511627776):i7 Tryz.prog 63 [.val (num k)] (.ret (.val (tx (lmk k))) []) []:=by
 refine F9 mixed ok63 rfl (fun _=>rfl) ?_
 unfold ir63
 rw [b8]
 unfold lmk
 by_cases h0:k=0
 · subst h0
   simp [d6,s8,L3,b7,c8,num,tx,bs]
 · have h0':¬ (k:Int)≤0:=by omega
   rw [if_neg h0]
   simp [d6,s8,L3,b7,c8,num,h0',h0]
   refine P5 (X:=Nat×Tx) (fun x=>⟨P9 [(0,.val (num x.1)),(3,.val (tx x.2))],Q1 []⟩) (fun x=>x.1≤k∧x.2.length+x.1≤k∧b2t x.1 x.2=b2t k []) (fun x=>x.1) (k,[]) (Le.mk _ _ ?_ ?_) ⟨Nat.le_refl _,by simp,rfl⟩ ?_
   · simp [upd,num,tx,bs]
   · simp
   · rintro ⟨m,out⟩ ⟨hm,hlen,hF⟩
     simp only at hm hlen hF
     by_cases hz:m=0
     · subst hz
       rw [c12] at hF
       subst hF
       have hlk:1+(b2t k []).length≤9223372036854775807:=by omega
       simp [num,tx,s9,S8,b9,hlk]
     · have hp:(0:Int) < (m:Int):=by omega
       have hp2:0 < m:=by omega
       rw [c4i hz] at hF
       have g6:(m:Int).tdiv 10=((m / 10:Nat):Int):=by rw [Int.tdiv_eq_ediv_of_nonneg (by omega)];omega
       have g7:(m:Int).tmod 10=((m % 10:Nat):Int):=by rw [Int.tmod_eq_emod_of_nonneg (by omega)];omega
       have ha:m / 10 < m:=Nat.div_lt_self (by omega) (by omega)
       have hb:m % 10 < 10:=Nat.mod_lt _ (by omega)
       have hl10:(UInt8.ofNat (48+m % 10) :: out).length+m / 10≤k:=by simp only [List.length_cons];omega
       have g8:IntKind.i64.wrap ((m / 10:Nat):Int)=((m / 10:Nat):Int):=wrap_i64 (by omega) (by omega)
       have g4:IntKind.i64.wrap (48+((m % 10:Nat):Int))=48+((m % 10:Nat):Int):=wrap_i64 (by omega) (by omega)
       have g5:IntKind.u8.wrap (48+((m % 10:Nat):Int))=48+((m % 10:Nat):Int):=a0u (by omega) (by omega)
       have g9:=c5u (m % 10)
       generalize m / 10=a at *
       generalize m % 10=b at *
       have hsz:1+out.length≤9223372036854775807:=by simp only [List.length_cons] at hl10;omega
       simp [d6,s8,L3,b7,c8,num,tx,hp,hp2,hz,g6,g7,g8,g4,g5,RV.isU8,g9,b9,S8]
       refine ⟨hsz,LoopNext.mk (a,UInt8.ofNat (48+b) :: out) ⟨by omega,hl10,hF⟩ ha (Le.mk _ _ ?_ ?_)⟩
       · simp [num,tx]
       · simp
end Go.Proofs
end
section
namespace Go.Proofs
open Go.PW Go.KP
attribute [local simp] RV.cells RV.one PV.cells PV.solid PV.one G5 a8 O1 O3 RV.ofCells elems PV.killL
variable [GF]
theorem b7d (a b:List Int) (ha:a.length < 1099511627776) (hb:b.length < 1099511627776):i7 Tryz.prog 67 [.val (.list 1 (a.map num)),.val (.list 1 (b.map num))] (.ret (.val (.bool (decide (a=b)))) []) []:=by
 refine F9 mixed ok67 rfl (fun _=>rfl) ?_
 unfold ir67
 rw [b8]
 by_cases hlen:a.length=b.length
 rotate_left
 · have h1:¬ (a.length:Int)=b.length:=by omega
   have h2:a≠b:=fun e=>hlen (by rw [e])
   simp [d6,s8,L3,b7,c8,h1,h2]
 simp [d6,s8,L3,b7,c8,num,hlen]
 refine P5 (X:=Nat) (fun i=>⟨P9 [(0,.val (.list 1 (a.map num))),(1,.val (.list 1 (b.map num))),(12,.val (num b.length)),(13,.val (num i))],Q1 []⟩) (fun i=>i≤b.length∧a.take i=b.take i) (fun i=>b.length - i) 0 (Le.mk _ _ ?_ ?_) ?_ ?_
 · simp [upd,num]
 · simp
 · simp
 · rintro i ⟨hi,heq⟩
   simp [num]
   refine P8 (fun h1b=>?_) (fun h1=>?_)
   · have h1:i < a.length:=by omega
     have e1:(a.map num)[i]?.getD .nilptr=num a[i]:=by simp [List.getElem?_eq_getElem h1]
     have e2:(b.map num)[i]?.getD .nilptr=num b[i]:=by simp [List.getElem?_eq_getElem h1b]
     simp [num,h1,h1b,e1,e2,tx]
     by_cases hu:a[i]=b[i]
     · simp [hu]
       refine LoopNext.mk (i+1) ⟨by omega,?_⟩ (by omega) (Le.mk _ _ ?_ ?_)
       · rw [List.take_add_one,List.take_add_one,List.getElem?_eq_getElem h1,List.getElem?_eq_getElem h1b,heq,hu]
       · simp [num,tx];exact wrap_i64 (by omega) (by omega)
       · simp
     · have h2:a≠b:=fun e=>hu (by subst e;rfl)
       simp [hu,h2]
   · have e:i=b.length:=by omega
     subst e
     rw [← hlen,List.take_length,hlen,List.take_length] at heq
     simp [heq]
theorem c1l {α:Type} {a b:List α} {i:Nat} (h1:i < a.length) (h2:i < b.length) (h:a.take i=b.take i) (he:a[i]=b[i]):a.take (i+1)=b.take (i+1):=by
 rw [List.take_add_one,List.take_add_one,List.getElem?_eq_getElem h1,List.getElem?_eq_getElem h2,h,he]
theorem c23 (a b:List Int) (ha:a.length < 1099511627776) (hb:b.length < 1099511627776):i7 Tryz.prog 65 [.val (.list 1 (a.map num)),.val (.list 1 (b.map num))] (.ret (.val (.bool (decide (a=b)))) []) []:=by
 refine F9 mixed ok65 rfl (fun _=>rfl) ?_
 unfold ir65
 rw [b8]
 by_cases hlen:a.length=b.length
 rotate_left
 · have h1:¬ (a.length:Int)=b.length:=by omega
   have h2:a≠b:=fun e=>hlen (by rw [e])
   simp [d6,s8,L3,b7,c8,h1,h2]
 simp [d6,s8,L3,b7,c8,num,hlen]
 refine P5 (X:=Nat) (fun i=>⟨P9 [(0,.val (.list 1 (a.map num))),(1,.val (.list 1 (b.map num))),(5,.val (num i))],Q1 []⟩) (fun i=>i≤a.length∧a.take i=b.take i) (fun i=>a.length - i) 0 (Le.mk _ _ ?_ ?_) ?_ ?_
 · simp [upd,num]
 · simp
 · simp
 · rintro i ⟨hi,heq⟩
   simp [num]
   refine P8 (fun h1=>?_) (fun h1=>?_)
   · have h1b:i < b.length:=by omega
     have wi:IntKind.i64.wrap ((i:Int)+1)=((i+1:Nat):Int):=by rw [wrap_i64 (by omega) (by omega)];omega
     simp [num,h1,h1b]
     by_cases hu:a[i]=b[i]
     · simp [hu]
       refine LoopNext.mk (i+1) ⟨by omega,c1l h1 h1b heq hu⟩ (by omega) (Le.mk _ _ ?_ ?_)
       · simp [num,wi]
       · simp
     · have h2:a≠b:=fun e=>hu (by subst e;rfl)
       simp [hu,h2]
   · have e:i=a.length:=by omega
     subst e
     rw [List.take_length,hlen,List.take_length] at heq
     simp [heq]
end Go.Proofs
end
section
namespace Go.Proofs
open Go.PW Go.KP
attribute [local simp] RV.cells RV.one PV.cells PV.solid PV.one G5 a8 O1 O3 RV.ofCells elems PV.killL
variable [GF]
end Go.Proofs
end
section
namespace Go.Proofs
open Go.PW Go.KP
attribute [local simp] RV.cells RV.one PV.cells PV.solid PV.one G5 a8 O1 O3 RV.ofCells elems PV.killL
variable [GH]
theorem pOf_bd {x:LJson} (h:(pOf x).2=true):(pOf x).1.body.length≤8000:=by
 unfold pOf at h ⊢
 by_cases hT:c32 x=true
 · rw [if_pos hT] at h ⊢
   unfold b3e pOK at h
   simp only [Bool.and_eq_true,decide_eq_true_eq] at h
   exact h.2.2.1
 · rw [if_neg hT] at h;cases h
theorem b8g (t:Tx):(rpR t).length≤3∧∀ p∈rpR t,p.body.length≤8000:=by
 unfold rpR rp
 split
 · exact ⟨Nat.zero_le _,by simp⟩
 split
 · exact ⟨Nat.zero_le _,by simp⟩
 split
 · exact ⟨Nat.zero_le _,by simp⟩
 split
 · rename_i h3 ha
   refine ⟨by simp;omega,fun p hp=>?_⟩
   obtain ⟨x,hx,rfl⟩:=List.mem_map.1 hp
   exact pOf_bd (List.all_eq_true.1 ha x hx)
 · exact ⟨Nat.zero_le _,by simp⟩
end Go.Proofs
end
section
namespace Go.Proofs
open Go.PW Go.KP
attribute [local simp] RV.cells RV.one PV.cells PV.solid PV.one G5 a8 O1 O3 RV.ofCells elems PV.killL
variable [GH]
def po (w:LWire):List LParcel×Int:=if 65536 < w.body.length∨4096 < w.ids.length then ([],1) else if rpC w.body≠0 then ([],rpC w.body) else if (rpR w.body).map LParcel.id=w.ids then (rpR w.body,0) else ([],16)
def poR (w:LWire):List LParcel:=(po w).1
def poC (w:LWire):Int:=(po w).2
theorem b70 (w:LWire):i7 Tryz.prog 17 [.val (O0 w)] (.ret (.tup [.val (.list 3 ((poR w).map O2)),.val (num (poC w))]) []) []:=by
 refine F9 mixed ok17 rfl (fun _=>rfl) ?_
 obtain ⟨R,hR⟩:∃ R,po w=R:=⟨_,rfl⟩
 unfold poR poC
 rw [hR]
 unfold po at hR
 obtain ⟨Z,hZ⟩:∃ Z,a4o [.t 2,.t 3] (.tup [.val (.list 3 (R.1.map O2)),.val (num R.2)])=Z:=⟨_,rfl⟩
 rw [hZ]
 unfold ir17
 rw [b8]
 by_cases h1:w.body.length≤65536
 · by_cases h2:w.ids.length≤4096
   · have h1':(w.body.length:Int)≤65536:=by omega
     have h1n:¬ (65536:Int) < (w.body.length:Int):=by omega
     have h2':¬ (4096:Int) < (w.ids.length:Int):=by omega
     rw [if_neg (by omega)] at hR
     have hr:=c2y w.body (by omega)
     unfold rpP at hr
     have e:a4y w.body=R5 w.body:=by unfold a4y;rw [if_pos h1]
     have e1:(rp (R5 w.body)).1=rpR w.body:=by unfold rpR;rw [e]
     have e2:(rp (R5 w.body)).2=rpC w.body:=by unfold rpC;rw [e]
     have hbd:=(b8g w.body).1
     rw [e1,e2] at hr
     generalize rpR w.body=L at *
     generalize rpC w.body=c at *
     simp [d6,s8,L3,b7,c8,O0,num,tx,s9,b9,h1',h2',h1,h1n]
     refine S7 rfl rfl (.inl rfl) hr ?_
     simp [num,tx]
     by_cases h3:c=0
     · rw [if_neg (by omega)] at hR
       simp [num,tx,h3]
       refine P5 (X:=Nat) (fun i=>⟨P9 [(1,.ptr 1 0),(4,.val (.list 3 (L.map O2))),(6,.own 29),(7,.val (num (i:Int)))],Q1 [(1,.box [.val (num w.at_),.val (num w.status),.val (tx w.group),.val (tx w.url),.val (.list 1 (w.ids.map num)),.val (tx w.body),.val (.bool w.lost)]),(29,.row 3 1 ((L.take i).map fun x=>num x.id))]⟩)
        (fun i=>i≤L.length) (fun i=>L.length - i) 0 (Le.mk _ _ ?_ ?_) (Nat.zero_le _) ?_
       · simp [num,tx,PV.kill]
       · simp [num,tx,MObj.kill,PV.kill,PV.killL,s9]
       · intro i hi
         have wi:IntKind.i64.wrap ((i:Int)+1)=((i+1:Nat):Int):=by rw [wrap_i64 (by omega) (by omega)];omega
         by_cases h4:i < L.length
         · have hst:(L.take (i+1)).map (fun x=>num x.id)=(L.take i).map (fun x=>num x.id)++[num L[i].id]:=by
            rw [List.take_add_one,List.getElem?_eq_getElem h4,List.map_append];rfl
           obtain ⟨y,hy⟩:∃ y,L[i]=y:=⟨_,rfl⟩
           rw [hy] at hst
           simp [num,tx,h4,hy,O2,elems,a8,RV.one,G5]
           refine ⟨by omega,by omega,?_⟩
           refine LoopNext.mk (i+1) h4 (by omega) (Le.mk _ _ ?_ ?_)
           · simp [num,wi,tx]
           · rw [hst];simp [num,tx,O2]
         · have ei:i=L.length:=by omega
           subst ei
           have hS:=c23 (L.map LParcel.id) w.ids (by simp;omega) (by omega)
           simp [num,tx]
           simp only [List.map_map,Function.comp_def] at hS
           refine d7 rfl rfl (.inr rfl) hS ?_
           by_cases h5:L.map LParcel.id=w.ids
           · obtain rfl:R=(L,0):=by rw [← hR,if_pos h5]
             simp [num,tx,h5]
             rw [← hZ]
             simp [num,O7,PV.pl]
           · obtain rfl:R=([],16):=by rw [← hR,if_neg h5]
             simp [num,tx,h5]
             rw [← hZ]
             simp [num,O7,PV.pl]
     · obtain rfl:R=([],c):=by rw [← hR,if_pos h3]
       simp [num,tx,h3]
       rw [← hZ]
       simp [num,O7,PV.pl]
   · have h1':(w.body.length:Int)≤65536:=by omega
     have h1n:¬ (65536:Int) < (w.body.length:Int):=by omega
     have h2':(4096:Int) < (w.ids.length:Int):=by omega
     obtain rfl:R=([],1):=by rw [← hR,if_pos (by omega)]
     simp [d6,s8,L3,b7,c8,O0,num,tx,s9,b9,h1',h2',h1,h1n]
     rw [← hZ]
     simp [num,O7,PV.pl]
 · have h1':¬ (w.body.length:Int)≤65536:=by omega
   have h1n:(65536:Int) < (w.body.length:Int):=by omega
   obtain rfl:R=([],1):=by rw [← hR,if_pos (by omega)]
   simp [d6,s8,L3,b7,c8,O0,num,tx,s9,b9,h1',h1,h1n]
   rw [← hZ]
   simp [num,O7,PV.pl]
theorem b7b (w:LWire):i7 Tryz.prog 19 [.val (O0 w)] (.ret (.tup [.own 0,.val (num (poC w))]) [⟨94,3,(poR w).map O2⟩]) []:=by
 obtain ⟨R,hR⟩:∃ R,po w=R:=⟨_,rfl⟩
 unfold poR poC
 rw [hR]
 unfold po at hR
 refine a8b (mk:=fun i=>.tup [.own i,.val (num R.2)]) mixed ok19 rfl (fun _=>rfl) ?_
 obtain ⟨Z,hZ⟩:∃ Z,c55 [.t 2,.t 3] (fun i=>.tup [.own i,.val (num R.2)]) 94 3 (R.1.map O2)=Z:=⟨_,rfl⟩
 rw [hZ]
 unfold ir19
 rw [b8]
 by_cases h1:w.body.length≤65536
 · by_cases h2:w.ids.length≤4096
   · have h1':(w.body.length:Int)≤65536:=by omega
     have h1n:¬ (65536:Int) < (w.body.length:Int):=by omega
     have h2':¬ (4096:Int) < (w.ids.length:Int):=by omega
     rw [if_neg (by omega)] at hR
     have hr:=b2w w.body
     have hbd:=(b8g w.body).1
     generalize rpR w.body=L at *
     generalize rpC w.body=c at *
     simp [d6,s8,L3,b7,c8,O0,num,tx,s9,b9,h1',h2',h1,h1n]
     refine a5k rfl rfl rfl (.inl rfl) hr ?_
     simp [num,tx,PV.shift,PV.shiftL,i8]
     by_cases h3:c=0
     · rw [if_neg (by omega)] at hR
       simp [num,tx,h3]
       refine P5 (X:=Nat) (fun i=>⟨P9 [(1,.ptr 1 0),(4,.own 23000),(29,.own 23000),(30,.val (num L.length)),(6,.own 28),(31,.val (num (i:Int)))],Q1 [(1,.box [.val (num w.at_),.val (num w.status),.val (tx w.group),.val (tx w.url),.val (.list 1 (w.ids.map num)),.val (tx w.body),.val (.bool w.lost)]),(23000,.row 94 3 (L.map O2)),(28,.row 3 1 ((L.take i).map fun x=>num x.id))]⟩)
        (fun i=>i≤L.length) (fun i=>L.length - i) 0 (Le.mk _ _ ?_ ?_) (Nat.zero_le _) ?_
       · simp [num,tx,PV.kill]
       · simp [num,tx,MObj.kill,PV.kill,PV.killL,s9]
       · intro i hi
         have wi:IntKind.i64.wrap ((i:Int)+1)=((i+1:Nat):Int):=by rw [wrap_i64 (by omega) (by omega)];omega
         by_cases h4:i < L.length
         · have hst:(L.take (i+1)).map (fun x=>num x.id)=(L.take i).map (fun x=>num x.id)++[num L[i].id]:=by
            rw [List.take_add_one,List.getElem?_eq_getElem h4,List.map_append];rfl
           obtain ⟨y,hy⟩:∃ y,L[i]=y:=⟨_,rfl⟩
           rw [hy] at hst
           simp [num,tx,h4,hy,O2,elems,a8,RV.one,G5]
           refine ⟨by omega,by omega,?_⟩
           refine LoopNext.mk (i+1) h4 (by omega) (Le.mk _ _ ?_ ?_)
           · simp [num,wi,tx]
           · rw [hst];simp [num,tx,O2]
         · have ei:i=L.length:=by omega
           subst ei
           have hS:=b7d (L.map LParcel.id) w.ids (by simp;omega) (by omega)
           simp [num,tx]
           simp only [List.map_map,Function.comp_def] at hS
           refine d7 rfl rfl (.inr rfl) hS ?_
           by_cases h5:L.map LParcel.id=w.ids
           · obtain rfl:R=(L,0):=by rw [← hR,if_pos h5]
             simp [num,tx,h5]
             rw [← hZ]
             simp [num]
             exact b6c 23000 (by simp) (by simp) (by simp)
           · obtain rfl:R=([],16):=by rw [← hR,if_neg h5]
             simp [num,tx,h5]
             rw [← hZ]
             simp [num]
             exact V9 3 600 (by omega) (.inl (by omega)) (by omega) (by simp) (by simp)
     · obtain rfl:R=([],c):=by rw [← hR,if_pos h3]
       simp [num,tx,h3]
       rw [← hZ]
       simp [num]
       exact V9 3 600 (by omega) (.inl (by omega)) (by omega) (by simp) (by simp)
   · have h1':(w.body.length:Int)≤65536:=by omega
     have h1n:¬ (65536:Int) < (w.body.length:Int):=by omega
     have h2':(4096:Int) < (w.ids.length:Int):=by omega
     obtain rfl:R=([],1):=by rw [← hR,if_pos (by omega)]
     simp [d6,s8,L3,b7,c8,O0,num,tx,s9,b9,h1',h2',h1,h1n]
     rw [← hZ]
     simp [num]
     exact V9 3 600 (by omega) (.inl (by omega)) (by omega) (by simp) (by simp)
 · have h1':¬ (w.body.length:Int)≤65536:=by omega
   have h1n:(65536:Int) < (w.body.length:Int):=by omega
   obtain rfl:R=([],1):=by rw [← hR,if_pos (by omega)]
   simp [d6,s8,L3,b7,c8,O0,num,tx,s9,b9,h1',h1,h1n]
   rw [← hZ]
   simp [num]
   exact V9 3 600 (by omega) (.inl (by omega)) (by omega) (by simp) (by simp)
theorem b8p (w:LWire):(poR w).length≤3∧∀ p∈poR w,p.body.length≤8000:=by
 unfold poR po
 split
 · exact ⟨Nat.zero_le _,by simp⟩
 split
 · exact ⟨Nat.zero_le _,by simp⟩
 split
 · exact b8g _
 · exact ⟨Nat.zero_le _,by simp⟩
end Go.Proofs
end
section
namespace Go.Proofs
open Go.PW Go.KP
attribute [local simp] RV.cells RV.one PV.cells PV.solid PV.one G5 a8 O1 O3 RV.ofCells elems PV.killL
variable [GF]
theorem c45 (l:List Int) (left:Int) (h0:0≤left) (h1:left≤1048576) (hl:l.length≤9223372036854775807):i7 Tryz.prog 64 [.val (.list 1 (l.map num)),.val (num left)] (.ret (.val (num (cut left l.length))) []) []:=by
 refine F9 mixed ok64 rfl (fun _=>rfl) ?_
 unfold ir64
 rw [b8]
 have hw:IntKind.i64.wrap (left - (l.length:Int))=left - l.length:=wrap_i64 (by omega) (by omega)
 by_cases h:left - (l.length:Int) < 0
 · rw [a1u (by omega)]
   simp [d6,s8,L3,b7,c8,num,hw,h]
 · rw [a79 (by omega)]
   simp [d6,s8,L3,b7,c8,num,hw,h]
theorem b1s (l:List Int) (hx:l.length≤1048576):i7 Tryz.prog 68 [.val (.list 1 (l.map num)),.val (.list 1 (l.map num))] (.ret (.val (.bool true)) []) []:=by
 refine F9 mixed ok68 rfl (fun _=>rfl) ?_
 unfold ir68
 rw [b8]
 have hl:l.length≤1048576:=hx
 simp [d6,s8,L3,b7,c8,num]
 refine P5 (X:=Nat) (fun i=>⟨P9 [(0,.val (.list 1 (l.map num))),(1,.val (.list 1 (l.map num))),(5,.val (num i))],Q1 []⟩) (fun i=>i≤l.length) (fun i=>l.length - i) 0 (Le.mk _ _ ?_ ?_) ?_ ?_
 · simp [upd,num,PV.kill]
 · simp
 · simp
 · intro i hi
   simp [num]
   refine P8 (fun h1=>?_) (fun h1=>?_)
   · have e1:(l.map num)[i]?.getD .nilptr=num l[i]:=by simp [List.getElem?_eq_getElem h1]
     simp [num,h1,e1,tx]
     refine LoopNext.mk (i+1) (by omega) (by omega) (Le.mk _ _ ?_ ?_)
     · simp [num];exact wrap_i64 (by omega) (by omega)
     · simp
   · simp
theorem c44 (x:LWire) (left:Int) (h0:0≤left) (h1:left≤1048576) (hx:Y2 9223372036854775807 x):i7 Tryz.prog 16 [.val (O0 x),.val (num left)] (.ret (.val (num (cut left (X9 x)))) []) []:=by
 refine F9 mixed ok16 rfl (fun _=>rfl) ?_
 unfold ir16
 rw [b8]
 unfold Y2 at hx
 obtain ⟨b0,b1,b2,b3⟩:=hx
 unfold X9
 have w0:IntKind.i64.wrap (left - ((x.group.length:Nat):Int))=left - ((x.group.length:Nat):Int):=wrap_i64 (by omega) (by omega)
 by_cases k0:left - ((x.group.length:Nat):Int) < 0
 · rw [a1u (by omega)]
   simp [d6,s8,L3,b7,c8,O0,tx,num,b9,a8,w0,k0]
 · skip
   have w1:IntKind.i64.wrap ((left - (x.group.length:Nat)) - ((x.url.length:Nat):Int))=(left - (x.group.length:Nat)) - ((x.url.length:Nat):Int):=wrap_i64 (by omega) (by omega)
   by_cases k1:(left - (x.group.length:Nat)) - ((x.url.length:Nat):Int) < 0
   · rw [a1u (by omega)]
     simp [d6,s8,L3,b7,c8,O0,tx,num,b9,a8,w0,w1,k0,k1]
   · simp [d6,s8,L3,b7,c8,O0,tx,num,b9,a8,w0,w1,k0,k1]
     refine d7 rfl rfl (.inl rfl) (c45 x.ids (left - (x.group.length:Nat) - (x.url.length:Nat)) (by omega) (by omega) b2) ?_
     by_cases k2:(left - (x.group.length:Nat) - (x.url.length:Nat)) - ((x.ids.length:Nat):Int) < 0
     · first | rw [a1u (by omega),a1u (by omega)] | rw [a1u (by omega)]
       simp [O0,tx,num,b9,a8]
     · rw [a79 (show ¬ (left - (x.group.length:Nat) - (x.url.length:Nat)) - ((x.ids.length:Nat):Int) < 0 by omega)]
       simp [O0,tx,num,b9,a8,k0,k1,k2]
       have w3:IntKind.i64.wrap ((left - (x.group.length:Nat) - (x.url.length:Nat) - (x.ids.length:Nat)) - ((x.body.length:Nat):Int))=(left - (x.group.length:Nat) - (x.url.length:Nat) - (x.ids.length:Nat)) - ((x.body.length:Nat):Int):=wrap_i64 (by omega) (by omega)
       by_cases k3:(left - (x.group.length:Nat) - (x.url.length:Nat) - (x.ids.length:Nat)) - ((x.body.length:Nat):Int) < 0
       · rw [a1u (by omega)]
         simp [O0,tx,num,b9,a8,w0,w1,w3,k0,k1,k2,k3]
       · rw [a79 (by omega)]
         simp [O0,tx,num,b9,a8,w0,w1,w3,k0,k1,k2,k3]
         try omega
theorem c47 (x:LWire) (hx:Y2 1048576 x):i7 Tryz.prog 20 [.val (O0 x),.val (O0 x)] (.ret (.val (.bool true)) []) []:=by
 refine F9 mixed ok20 rfl (fun _=>rfl) ?_
 unfold ir20
 rw [b8]
 unfold Y2 at hx
 obtain ⟨b0,b1,b2,b3⟩:=hx
 simp [d6,s8,L3,b7,c8,O0,tx,num,a8]
 refine d7 rfl rfl (.inl rfl) (b1s x.ids b2) ?_
 simp [O0,tx,num,a8]
theorem c2l (l:List LWire) (left:Int) (h0:0≤left) (h1:left≤1048576) (hx:bdS 9223372036854775807 (Y2 9223372036854775807) l):i7 Tryz.prog 22 [.val (.list 7 (l.map O0)),.val (num left)] (.ret (.val (num (cut left (zS X9 l)))) []) []:=by
 refine F9 mixed ok22 rfl (fun _=>rfl) ?_
 unfold ir22
 rw [b8]
 have hl:l.length≤9223372036854775807:=hx.1
 have hw:IntKind.i64.wrap (left - (l.length:Int))=left - l.length:=wrap_i64 (by omega) (by omega)
 have hzs:zS X9 l=l.length+Z5 X9 l:=rfl
 by_cases h:left - (l.length:Int) < 0
 · rw [a1u (by omega)]
   simp [d6,s8,L3,b7,c8,num,hw,h]
 · simp [d6,s8,L3,b7,c8,num,hw,h]
   refine P5 (X:=Nat) (fun i=>⟨P9 [(0,.val (.list 7 (l.map O0))),(1,.val (num (left - l.length - (Z5 X9 (l.take i):Nat)))),(5,.val (num i))],Q1 []⟩) (fun i=>i≤l.length∧0≤left - l.length - (Z5 X9 (l.take i):Nat)) (fun i=>l.length - i) 0 (Le.mk _ _ ?_ ?_) ?_ ?_
   · simp [upd,num,Z5,PV.kill]
   · simp
   · simp [Z5];omega
   · rintro i ⟨hi,hg⟩
     simp [num]
     refine P8 (fun h2=>?_) (fun h2=>?_)
     · have e1:(l.map O0)[i]?.getD .nilptr=O0 l[i]:=by simp [List.getElem?_eq_getElem h2]
       have hsn:Z5 X9 (l.take (i+1))=Z5 X9 (l.take i)+X9 l[i]:=b3j _ h2
       have hle:=c0u (f:=X9) l (i+1)
       simp [num,h2,e1,O0,tx]
       refine d7 rfl rfl (.inl rfl) (c44 l[i] (left - l.length - (Z5 X9 (l.take i):Nat)) (by omega) (by omega) (hx.2 _ (List.getElem_mem h2))) ?_
       by_cases h3:left - (l.length:Int) - (Z5 X9 (l.take i):Int) - (X9 l[i]:Int) < 0
       · have c1:cut (left - l.length - (Z5 X9 (l.take i):Nat)) (X9 l[i])=-1:=a1u (by omega)
         have c2:cut left (zS X9 l)=-1:=a1u (by omega)
         rw [c1,c2]
         simp [num]
       · have c1:cut (left - l.length - (Z5 X9 (l.take i):Nat)) (X9 l[i])=left - l.length - (Z5 X9 (l.take i):Nat) - (X9 l[i]:Nat):=a79 (by omega)
         rw [c1]
         simp [num,h3]
         refine LoopNext.mk (i+1) ⟨by omega,by omega⟩ (by omega) (Le.mk _ _ ?_ ?_)
         · simp [num]
           exact ⟨by omega,wrap_i64 (by omega) (by omega)⟩
         · simp
     · have e1:i=l.length:=by omega
       subst e1
       rw [List.take_length] at *
       rw [a79 (by omega)]
       simp [num]
       omega
theorem c2m (l:List LWire) (hx:bdS 1048576 (Y2 1048576) l):i7 Tryz.prog 27 [.val (.list 7 (l.map O0)),.val (.list 7 (l.map O0))] (.ret (.val (.bool true)) []) []:=by
 refine F9 mixed ok27 rfl (fun _=>rfl) ?_
 unfold ir27
 rw [b8]
 have hl:l.length≤1048576:=hx.1
 simp [d6,s8,L3,b7,c8,num]
 refine P5 (X:=Nat) (fun i=>⟨P9 [(0,.val (.list 7 (l.map O0))),(1,.val (.list 7 (l.map O0))),(5,.val (num i))],Q1 []⟩) (fun i=>i≤l.length) (fun i=>l.length - i) 0 (Le.mk _ _ ?_ ?_) ?_ ?_
 · simp [upd,num,PV.kill]
 · simp
 · simp
 · intro i hi
   simp [num]
   refine P8 (fun h1=>?_) (fun h1=>?_)
   · have e1:(l.map O0)[i]?.getD .nilptr=O0 l[i]:=by simp [List.getElem?_eq_getElem h1]
     simp [num,h1,e1,O0,tx]
     refine d7 rfl rfl (.inl rfl) (c47 l[i] (hx.2 _ (List.getElem_mem h1))) ?_
     simp
     refine LoopNext.mk (i+1) (by omega) (by omega) (Le.mk _ _ ?_ ?_)
     · simp [num];exact wrap_i64 (by omega) (by omega)
     · simp
   · simp
end Go.Proofs
end
section
namespace Go.Proofs
open Go.PW Go.KP
attribute [local simp] RV.cells RV.one PV.cells PV.solid PV.one G5 a8 O1 O3 RV.ofCells elems PV.killL
variable [GF]
theorem b20 (l:List Int) (hx:l.length≤1048576):i7 Tryz.prog 66 [.val (.list 1 (l.map num))] (.ret (.own 0) [⟨3,1,l.map num⟩]) []:=by
 refine call_mk (mk:=fun i=>.own i) mixed ok66 rfl (fun _=>rfl) ?_
 unfold ir66
 rw [b8]
 have hl:l.length≤1048576:=hx
 simp [d6,s8,L3,b7,c8,num,G5]
 refine ⟨by omega,by omega,?_⟩
 refine P5 (X:=Nat) (fun i=>⟨P9 [(0,.val (.list 1 (l.map num))),(3,.own 7),(4,.val (num i))],Q1 [(7,.row 3 1 (a7i num (.int .i64 0) l i))]⟩) (fun i=>i≤l.length) (fun i=>l.length - i) 0 (Le.mk _ _ ?_ ?_) ?_ ?_
 · simp [upd,num,PV.kill]
 · simp [upd,num,bs,c1j]
 · simp
 · intro i hi
   have hlen:=c3d num (.int .i64 0) l i hi
   simp [num,G5]
   refine P8 (fun h1=>?_) (fun h1=>?_)
   · have e1:(l.map num)[i]?.getD .nilptr=num l[i]:=by simp [List.getElem?_eq_getElem h1]
     have e2:=upTo_at num (.int .i64 0) l i h1
     have e3:=c3c num (.int .i64 0) l i h1
     have e4:(a7i num (.int .i64 0) l i)[i]'(by omega)=(.int .i64 0):=by
      have h9:=e2
      rw [List.getElem?_eq_getElem (show i < (a7i num (.int .i64 0) l i).length by omega)] at h9
      exact h9
     simp [num,h1,e1,tx,hlen,G5]
     refine LoopNext.mk (i+1) (by omega) (by omega) (Le.mk _ _ ?_ ?_)
     · simp [num];exact wrap_i64 (by omega) (by omega)
     · rw [← e3]
       simp [num,tx,e4]
   · have e1:i=l.length:=by omega
     subst e1
     simp [num,c3e,O7,PV.pl]
theorem c10 {K:Kx (PExit→St→Prop)} (xs:List RV) (k i:Nat) (a0:Int) (hi:i < xs.length) (hk:k < 549755813888) (hl:xs.length < 1099511627776) (hx:xs[i]?.getD .nilptr=.int .i64 a0)
 (hn:∀ st':St,st'.env 0=.own 900→st'.env 1=.val (num ((k+1:Nat):Int))→st'.env 5=.val (num ((i+1:Nat):Int))→st'.mem 900=.row 3 1 (xs.set i (num (Y5 k)))→K.k .normal st') :
 EC Tryz.prog ir69_l6 ⟨P9 [(0,.own 900),(1,.val (num k)),(5,.val (num i))],Q1 [(900,.row 3 1 xs)]⟩ (K:=K):=by
 unfold ir69_l6
 have s1:IntKind.i64.wrap ((k:Int)+1)=(k:Int)+1:=wrap_i64 (by omega) (by omega)
 have si:IntKind.i64.wrap ((i:Int)+1)=(i:Int)+1:=wrap_i64 (by omega) (by omega)
 have hx':xs[i]=.int .i64 a0:=by rw [← hx];simp [List.getElem?_eq_getElem hi]
 simp [num,hi,hx,s1]
 refine hn _ ?_ ?_ ?_ ?_
 · simp
 · simp only [x8,F7,y0,F5,y6,p9,x9,F6,j4,A4,G7,G8,d4,o0,o9,f8,y7,p8,i6,F4,x7,p7,p6,D2,D3,T8,T9,Option.getD_some,Option.getD_none,B9,t6,l9,C9,l8,k8,D1,k9,D0,C8,C7,H2,v7,l6,C5,u9,l5,C4,B7,C6,v6,C2,k7,u7,C3,H4,H3,B8,C0,l4,C1,v8,l7,A7,j6,B6,B5,B4,G9,u5,j8,B2,u3,j7,B1,A5,B3,u4,A9,j5,u2,B0,H1,H0,A6,u1,k6,A8,u6,j9,J0,I9,K3,J1,J5,J3,J2,K2,J4,J6,J7,J8,J9,z7,z6,y9,L4,L5,L2,F8,t7,D7,w6,K5,q7,P0,L8,K8,N0,N2,N1,P1,P2,I2,I4,I3,I5,I6,M7,w8,M6,D8,D9,E4,w9,U1,F1,x6,O8,O9,H5,L6,L7,Option.map_some,Option.map_none,E5,x4,w5,n0,D5,D6,H7,H6,N7,N6,I8,F2,F3,I7,N3,N4,H8,n8,H9,n7,M2,F0,E9,f9,M9,N5,I1,M3,M5,M4,w7,A1,A3,A2,d8,M8,P4,P3,L9,I0,Q6,M1,n9,E7,E8,x5,E6,f7,t8,f6,u0,d9,K4,N8,N9,z8,A0,G3,G0,D4,L2,s1,num]
   simp
   try omega
 · simp [num,si]
 · simp [hi,hx,hx']
   try simp [s1,Y5,num,tx]
theorem a64 (l:List Int) (k:Nat) (hk:k < 8388608) (hl:l.length≤1048576):a8i Tryz.prog 69 (.own 0) 3 1 (l.map num) [.val (num k)] (num ((k+1*l.length:Nat):Int)) ((mkL Y5 1 l.length k).map num):=by
 refine b14 mixed ok69 rfl ?_
 unfold ir69
 rw [b8]
 simp [d6,s8,L3,b7,c8,W7,PV.nm,num]
 refine P5 (X:=Nat) (fun i=>⟨P9 [(0,.own 900),(1,.val (num ((k+1*i:Nat):Int))),(5,.val (num i))],Q1 [(900,.row 3 1 ((mkU Y5 1 l k i).map num))]⟩) (fun i=>i≤l.length) (fun i=>l.length - i) 0 (Le.mk _ _ ?_ ?_) (Nat.zero_le _) ?_
 · simp [upd,num,PV.kill]
 · simp [b6s]
 · intro i hi
   have hml:=c0r Y5 1 l k i hi
   by_cases h1:i < l.length
   · have hmi:i < (mkU Y5 1 l k i).length:=by omega
     have hset:=c0q Y5 1 l k i h1
     refine c10 ((mkU Y5 1 l k i).map num) (k+1*i) i (mkU Y5 1 l k i)[i] (by simpa using hmi) (by omega) (by simp;omega) (by simp [List.getElem?_eq_getElem hmi,num]) (fun st' q0 q1 q5 qm=>?_)
     simp
     refine LoopNext.mk (i+1) h1 (by omega) (Le.mk _ _ ?_ ?_)
     · simp [q0,q1,q5,num]
       omega
     · rw [← List.map_set,hset] at qm
       simp [qm]
   · have e:i=l.length:=by omega
     subst e
     unfold ir69_l6
     simp [num,hml,c0s,a0i]
theorem b1p (n k:Nat) (hk:k < 8388608) (hl:n≤1048576):i7 Tryz.prog 75 [.val (.list 1 ((mkL Y5 1 n k).map num)),.val (num k)] (.ret (.val (num ((k+1*n:Nat):Int))) []) []:=by
 refine F9 mixed ok75 rfl (fun _=>rfl) ?_
 unfold ir75
 rw [b8]
 have hlen:=a0i Y5 1 n k
 simp [d6,s8,L3,b7,c8,num]
 refine P5 (X:=Nat) (fun i=>⟨P9 [(0,.val (.list 1 ((mkL Y5 1 n k).map num))),(1,.val (num ((k+1*i:Nat):Int))),(5,.val (num i))],Q1 []⟩) (fun i=>i≤n) (fun i=>n - i) 0 (Le.mk _ _ ?_ ?_) (Nat.zero_le _) ?_
 · simp [upd,num,PV.kill]
 · simp
 · intro i hi
   unfold ir75_l6
   by_cases h1:i < n
   · have hi':i < (mkL Y5 1 n k).length:=by omega
     have hat:(mkL Y5 1 n k)[i]=Y5 (k+1*i):=c4b h1
     have e1:((mkL Y5 1 n k).map num)[i]?.getD .nilptr=num (Y5 (k+1*i)):=by simp [List.getElem?_eq_getElem hi',hat]
     generalize hj:k+1*i=j at *
     have hjj:j < 1099511627776:=by omega
     have s1:IntKind.i64.wrap ((j:Int)+1)=((j+1:Nat):Int):=by rw [wrap_i64 (by omega) (by omega)];omega
     have si:IntKind.i64.wrap ((i:Int)+1)=((i+1:Nat):Int):=by rw [wrap_i64 (by omega) (by omega)];omega
     have hat2:Y5 j=(j:Int):=rfl
     simp [num,a0i,h1,e1,hat,hat2,tx,s1,si]
     refine LoopNext.mk (i+1) h1 (by omega) (Le.mk _ _ ?_ ?_)
     · simp [num,s1,si]
       omega
     · simp
   · have e:i=n:=by omega
     subst e
     simp [num,a0i]
theorem c1z {K:Kx (PExit→St→Prop)} (xs:List RV) (k i:Nat) (a0:ByteArray) (hi:i < xs.length) (hk:k < 549755813888) (hl:xs.length < 1099511627776) (hx:xs[i]?.getD .nilptr=.str a0)
 (hn:∀ st':St,st'.env 0=.own 900→st'.env 1=.val (num ((k+1:Nat):Int))→st'.env 5=.val (num ((i+1:Nat):Int))→st'.mem 900=.row 9 1 (xs.set i (tx (lmk k)))→K.k .normal st') :
 EC Tryz.prog ir74_l6 ⟨P9 [(0,.own 900),(1,.val (num k)),(5,.val (num i))],Q1 [(900,.row 9 1 xs)]⟩ (K:=K):=by
 unfold ir74_l6
 have s1:IntKind.i64.wrap ((k:Int)+1)=(k:Int)+1:=wrap_i64 (by omega) (by omega)
 have hmk0:i7 Tryz.prog 63 [.val (.int .i64 ((k:Int)))] (.ret (.val (.str (bs (lmk (k+0))))) []) []:=by
  have h:=a23 (k+0) (by omega)
  exact h
 have si:IntKind.i64.wrap ((i:Int)+1)=(i:Int)+1:=wrap_i64 (by omega) (by omega)
 have hx':xs[i]=.str a0:=by rw [← hx];simp [List.getElem?_eq_getElem hi]
 simp [num,hi]
 refine d7 rfl rfl (.inl rfl) hmk0 ?_
 simp [num,hi,hx,tx,s1]
 refine hn _ ?_ ?_ ?_ ?_
 · simp
 · simp only [x8,F7,y0,F5,y6,p9,x9,F6,j4,A4,G7,G8,d4,o0,o9,f8,y7,p8,i6,F4,x7,p7,p6,D2,D3,T8,T9,Option.getD_some,Option.getD_none,B9,t6,l9,C9,l8,k8,D1,k9,D0,C8,C7,H2,v7,l6,C5,u9,l5,C4,B7,C6,v6,C2,k7,u7,C3,H4,H3,B8,C0,l4,C1,v8,l7,A7,j6,B6,B5,B4,G9,u5,j8,B2,u3,j7,B1,A5,B3,u4,A9,j5,u2,B0,H1,H0,A6,u1,k6,A8,u6,j9,J0,I9,K3,J1,J5,J3,J2,K2,J4,J6,J7,J8,J9,z7,z6,y9,L4,L5,L2,F8,t7,D7,w6,K5,q7,P0,L8,K8,N0,N2,N1,P1,P2,I2,I4,I3,I5,I6,M7,w8,M6,D8,D9,E4,w9,U1,F1,x6,O8,O9,H5,L6,L7,Option.map_some,Option.map_none,E5,x4,w5,n0,D5,D6,H7,H6,N7,N6,I8,F2,F3,I7,N3,N4,H8,n8,H9,n7,M2,F0,E9,f9,M9,N5,I1,M3,M5,M4,w7,A1,A3,A2,d8,M8,P4,P3,L9,I0,Q6,M1,n9,E7,E8,x5,E6,f7,t8,f6,u0,d9,K4,N8,N9,z8,A0,G3,G0,D4,L2,s1,num]
   simp
   try omega
 · simp [num,si]
 · simp [hi,hx,hx']
   try simp [s1,num,tx]
theorem b2x (l:List Tx) (k:Nat) (hk:k < 8388608) (hl:l.length≤1048576):a8i Tryz.prog 74 (.own 0) 9 1 (l.map tx) [.val (num k)] (num ((k+1*l.length:Nat):Int)) ((mkL lmk 1 l.length k).map tx):=by
 refine b14 mixed ok74 rfl ?_
 unfold ir74
 rw [b8]
 simp [d6,s8,L3,b7,c8,W7,PV.nm,num]
 refine P5 (X:=Nat) (fun i=>⟨P9 [(0,.own 900),(1,.val (num ((k+1*i:Nat):Int))),(5,.val (num i))],Q1 [(900,.row 9 1 ((mkU lmk 1 l k i).map tx))]⟩) (fun i=>i≤l.length) (fun i=>l.length - i) 0 (Le.mk _ _ ?_ ?_) (Nat.zero_le _) ?_
 · simp [upd,num,PV.kill]
 · simp [b6s]
 · intro i hi
   have hml:=c0r lmk 1 l k i hi
   by_cases h1:i < l.length
   · have hmi:i < (mkU lmk 1 l k i).length:=by omega
     have hset:=c0q lmk 1 l k i h1
     refine c1z ((mkU lmk 1 l k i).map tx) (k+1*i) i (bs (mkU lmk 1 l k i)[i]) (by simpa using hmi) (by omega) (by simp;omega) (by simp [List.getElem?_eq_getElem hmi,tx]) (fun st' q0 q1 q5 qm=>?_)
     simp
     refine LoopNext.mk (i+1) h1 (by omega) (Le.mk _ _ ?_ ?_)
     · simp [q0,q1,q5,num]
       omega
     · rw [← List.map_set,hset] at qm
       simp [qm]
   · have e:i=l.length:=by omega
     subst e
     unfold ir74_l6
     simp [num,hml,c0s,a0i]
theorem b2y (n k:Nat) (hk:k < 8388608) (hl:n≤1048576):i7 Tryz.prog 76 [.val (.list 1 ((mkL lmk 1 n k).map tx)),.val (num k)] (.ret (.val (num ((k+1*n:Nat):Int))) []) []:=by
 refine F9 mixed ok76 rfl (fun _=>rfl) ?_
 unfold ir76
 rw [b8]
 have hlen:=a0i lmk 1 n k
 simp [d6,s8,L3,b7,c8,num]
 refine P5 (X:=Nat) (fun i=>⟨P9 [(0,.val (.list 1 ((mkL lmk 1 n k).map tx))),(1,.val (num ((k+1*i:Nat):Int))),(5,.val (num i))],Q1 []⟩) (fun i=>i≤n) (fun i=>n - i) 0 (Le.mk _ _ ?_ ?_) (Nat.zero_le _) ?_
 · simp [upd,num,PV.kill]
 · simp
 · intro i hi
   unfold ir76_l6
   by_cases h1:i < n
   · have hi':i < (mkL lmk 1 n k).length:=by omega
     have hat:(mkL lmk 1 n k)[i]=lmk (k+1*i):=c4b h1
     have e1:((mkL lmk 1 n k).map tx)[i]?.getD .nilptr=tx (lmk (k+1*i)):=by simp [List.getElem?_eq_getElem hi',hat]
     generalize hj:k+1*i=j at *
     have hjj:j < 1099511627776:=by omega
     have s1:IntKind.i64.wrap ((j:Int)+1)=((j+1:Nat):Int):=by rw [wrap_i64 (by omega) (by omega)];omega
     have si:IntKind.i64.wrap ((i:Int)+1)=((i+1:Nat):Int):=by rw [wrap_i64 (by omega) (by omega)];omega
     have hmk0:i7 Tryz.prog 63 [.val (.int .i64 ((j+0:Nat):Int))] (.ret (.val (.str (bs (lmk (j+0))))) []) []:=a23 (j+0) (by omega)
     simp [num,a0i,h1,e1,hat,tx,s1,si]
     refine V7 rfl rfl (.inl rfl) hmk0 ?_
     simp [num,a0i,h1,e1,hat,tx,s1,si]
     refine LoopNext.mk (i+1) h1 (by omega) (Le.mk _ _ ?_ ?_)
     · simp [num,s1,si]
       omega
     · simp
   · have e:i=n:=by omega
     subst e
     simp [num,a0i]
end Go.Proofs
end
section
namespace Go.Proofs
open Go.PW Go.KP
attribute [local simp] RV.cells RV.one PV.cells PV.solid PV.one G5 a8 O1 O3 RV.ofCells elems PV.killL
variable [GF]
theorem b7i (l:List Tx) (hx:bdS 1048576 (fun t=>t.length≤1048576) l):i7 Tryz.prog 73 [.val (.list 1 (l.map tx)),.val (.list 1 (l.map tx))] (.ret (.val (.bool true)) []) []:=by
 refine F9 mixed ok73 rfl (fun _=>rfl) ?_
 unfold ir73
 rw [b8]
 have hl:l.length≤1048576:=hx.1
 simp [d6,s8,L3,b7,c8,num]
 refine P5 (X:=Nat) (fun i=>⟨P9 [(0,.val (.list 1 (l.map tx))),(1,.val (.list 1 (l.map tx))),(5,.val (num i))],Q1 []⟩) (fun i=>i≤l.length) (fun i=>l.length - i) 0 (Le.mk _ _ ?_ ?_) ?_ ?_
 · simp [upd,num,PV.kill]
 · simp
 · simp
 · intro i hi
   simp [num]
   refine P8 (fun h1=>?_) (fun h1=>?_)
   · have e1:(l.map tx)[i]?.getD .nilptr=tx l[i]:=by simp [List.getElem?_eq_getElem h1]
     simp [num,h1,e1,tx]
     refine LoopNext.mk (i+1) (by omega) (by omega) (Le.mk _ _ ?_ ?_)
     · simp [num];exact wrap_i64 (by omega) (by omega)
     · simp
   · simp
theorem g_eqBox (x:LBox) (hx:c5x 1048576 x):i7 Tryz.prog 26 [.val (V3 x),.val (V3 x)] (.ret (.val (.bool true)) []) []:=by
 refine F9 mixed ok26 rfl (fun _=>rfl) ?_
 unfold ir26
 rw [b8]
 unfold c5x at hx
 obtain ⟨b0,b1,b2⟩:=hx
 simp [d6,s8,L3,b7,c8,V3,tx,num,a8]
 refine d7 rfl rfl (.inl rfl) (b1s x.ids b0) ?_
 simp [V3,tx,num,a8]
 refine d7 rfl rfl (.inl rfl) (b1s x.times b1) ?_
 simp [V3,tx,num,a8]
 refine d7 rfl rfl (.inl rfl) (b7i x.bodies b2) ?_
 simp [V3,tx,num,a8]
end Go.Proofs
end
section
namespace Go.Proofs
open Go.PW Go.KP
attribute [local simp] RV.cells RV.one PV.cells PV.solid PV.one G5 a8 O1 O3 RV.ofCells elems PV.killL
variable [GF]
attribute [local simp] a4s a9z b6o b6p b6m b6n a2a b1z a62 b78 b2h b2i a5q
theorem a2y {α:Type} {f:α→RV} (h:∀ x,(f x).flat=true) (l:List α):∀ x∈l.map f,x.flat=true:=fun x hx=>by
 obtain ⟨y,_,rfl⟩:=List.mem_map.1 hx
 exact h y
theorem c5d (l:List Int) (k j:Nat) (hk:k < 16) (hx:l.length≤1048576):U2 Tryz.prog 66 [.val (.list 1 (l.map num))] (fun _=>.dead) (fun _=>false) (.own (DN k j)) (dyn fun k' j'=>if k'=k∧j'=j then .row 3 1 (l.map num) else .dead):=
 mem_new (b20 l hx) (a2y (fun _=>rfl) l) k j hk
def Z0 (x:LWire) (j:Nat):List PV:=[.val (num x.at_),.val (num x.status),.val (tx x.group),.val (tx x.url),.own (DN 10 j),.val (tx x.body),.val (.bool x.lost)]
def Z9 (x:LWire) (k:Nat):MObj:=if k=10 then .row 3 1 (x.ids.map num) else .dead
theorem a2p (x:LWire) (k:Nat):((k=10)∧∃ E sz xs,Z9 x k=.row E sz xs)∨Z9 x k=.dead∧¬ (k=10):=by
 by_cases h:k=10
 · refine .inl ⟨h,?_⟩
   unfold Z9
   subst h;simp
 · refine .inr ⟨?_,h⟩
   unfold Z9
   skip
   simp [h]
theorem b34 (x:LWire) (j:Nat) {S:Nat→Bool} (h:∀ k,(k=10)→S (DN k j)=true):(PV.agg (Z0 x j)).onT S:=by
 refine c35 fun p hp=>?_
 simp only [Z0,List.mem_cons,List.not_mem_nil,or_false] at hp
 rcases hp with rfl | rfl | rfl | rfl | rfl | rfl | rfl
 · exact a1q
 · exact a1q
 · exact a1q
 · exact a1q
 · exact a5x (h _ (by simp))
 · exact a1q
 · exact a1q
theorem c5c (x:LWire) (j:Nat) (hx:Y2 1048576 x):U2 Tryz.prog 18 [.val (O0 x)] (fun _=>.dead) (fun _=>false) (.agg (Z0 x j)) (dyn fun k i=>if i=j then Z9 x k else .dead):=by
 refine a8d mixed ok18 (fun i h=>by cases h) (fun i h=>by cases h) ?_
 unfold ir18
 rw [b8]
 unfold Y2 at hx
 obtain ⟨b0,b1,b2,b3⟩:=hx
 simp [O0,tx,num]
 refine c5l (rs:=[.list 1 (x.ids.map num)]) (fun k' i'=>k' == 10 && i' == j) rfl (c5d x.ids 10 j (by omega) b2) ?_ ?_ ?_
 · intro k i hk hl
   by_cases h:k=10∧i=j
   · rw [if_pos h]
     exact ⟨by simp [h],a7o,fun cs h=>by cases h⟩
   · rw [if_neg h] at hl;cases hl
 · exact a5x (by simp)
 simp [O0,tx,num]
 refine finM_D _ ?_ ?_ ?_ ?_
 · simp [Z0,Z9,O0,tx,num,P7,Y6]
 · intro k i hk hl
   by_cases h:i=j
   · subst h
     rw [if_pos rfl] at hl ⊢
     rcases a2p x k with ⟨h,E,sz,xs,e⟩ | ⟨h,_⟩
     · subst h<;>simp [Z0,Z9]
     · rw [h] at hl;cases hl
   · rw [if_neg h] at hl;cases hl
 · exact b34 x j fun k _=>by simp
 · intro k i hk
   by_cases h:i=j
   · rw [if_pos h]
     rcases a2p x k with ⟨h,E,sz,xs,e⟩ | ⟨h,_⟩
     · rw [e];exact a7o
     · rw [h];exact a7p
   · rw [if_neg h];exact a7p
def X0 (l:List LWire) (j k:Nat):PV:=match l[j]? with
 | some x=>(Z0 x j).getD k .undef
 | none=>.undef
def a4a (l:List LWire):MObj:=.prow 33 7 l.length (X0 l)
def a0b (l:List LWire) (k j:Nat):MObj:=match l[j]? with
 | some x=>Z9 x k
 | none=>.dead
theorem c24 (x:LWire) (j k:Nat):(∃ r,(Z0 x j).getD k .undef=.val r)∨(Z0 x j).getD k .undef=.undef∨(∃ k',(k'=10)∧(Z0 x j).getD k .undef=.own (DN k' j)):=by
 unfold Z0
 by_cases h:k < 7
 · have:k=0∨k=1∨k=2∨k=3∨k=4∨k=5∨k=6:=by omega
   rcases this with rfl | rfl | rfl | rfl | rfl | rfl | rfl<;>simp
 · rw [List.getD_eq_getElem?_getD,List.getElem?_eq_none (by simp;omega)]
   exact .inr (.inl rfl)
theorem b0z (l:List LWire) (j k:Nat):(∃ r,X0 l j k=.val r)∨X0 l j k=.undef∨(∃ k',(k'=10)∧X0 l j k=.own (DN k' j)):=by
 unfold X0
 cases l[j]? with
 | none=>exact .inr (.inl rfl)
 | some x=>exact c24 x j k
theorem b4v (l:List LWire) (j k:Nat) (d:Nat→Bool) (h:∀ k',(k'=10)→d (DN k' j)=false):(X0 l j k).kill d=X0 l j k:=by
 rcases b0z l j k with ⟨r,e⟩ | e | ⟨k',hk,e⟩<;>rw [e]<;>simp only [PV.kill]
 rw [h k' hk];rfl
theorem a4f (l:List LWire) (k j:Nat):((k=10)∧j < l.length∧∃ E sz xs,a0b l k j=.row E sz xs)∨a0b l k j=.dead:=by
 unfold a0b
 by_cases h:j < l.length
 · rw [List.getElem?_eq_getElem h]
   rcases a2p l[j] k with ⟨h',e⟩ | ⟨h,_⟩
   · exact .inl ⟨h',h,e⟩
   · exact .inr h
 · rw [List.getElem?_eq_none (by omega)];exact .inr rfl
theorem b7m (l:List LWire) (k j:Nat) (d:Nat→Bool):(a0b l k j).kill d=a0b l k j:=by
 rcases a4f l k j with ⟨_,_,E,sz,xs,e⟩ | e<;>rw [e]<;>rfl
theorem b3f (l:List LWire) {S:Nat→Bool} (h:∀ k j,(k=10)→S (DN k j)=true):(a4a l).onT S:=by
 refine c34 fun j k=>?_
 rcases b0z l j k with ⟨r,e⟩ | e | ⟨k',hk,e⟩
 · exact .inl ⟨r,e⟩
 · exact .inr (.inl e)
 · exact .inr (.inr (.inr ⟨_,e,h k' j hk⟩))
def W2 (l:List LWire) (k i:Nat):MObj:=if k=4∧i=0 then a4a l else a0b l k i
theorem a8y (l:List LWire) (k i:Nat) {S:Nat→Bool} (hS:∀ k j,(k=10)→S (DN k j)=true) (h:(W2 l k i).live=true):((k == 10) || (k == 4 && i == 0))=true∧(W2 l k i).onT S∧∀ cs,W2 l k i≠.box cs:=by
 unfold W2 at h ⊢
 by_cases h0:k=4∧i=0
 · rw [if_pos h0]
   exact ⟨by simp [h0],b3f l hS,fun cs h=>by cases h⟩
 · rw [if_neg h0] at h ⊢
   rcases a4f l k i with ⟨h',_,E,sz,xs,e⟩ | e
   · rw [e]
     refine ⟨?_,a7o,fun cs h=>by cases h⟩
     subst h';simp
   · rw [e] at h;cases h
theorem b3h (l:List LWire) (k i:Nat) {S:Nat→Bool} (hS:∀ k j,(k=10)→S (DN k j)=true):(W2 l k i).onT S:=by
 cases hl:(W2 l k i).live with
 | true=>exact (a8y l k i hS hl).2.1
 | false=>cases hm:W2 l k i<;>rw [hm] at hl<;>first | exact a7p | cases hl
theorem b6v (l:List LWire) (k i:Nat) (d:Nat→Bool) (h:∀ k j,(k=10)→d (DN k j)=false):(W2 l k i).kill d=W2 l k i:=
 (b3h l k i (S:=fun x=>!d x) fun k j hk=>by simp [h k j hk]).2 d fun x hx=>by simpa using hx
theorem b31 (l:List LWire) (hx:bdS 1048576 (Y2 1048576) l):U2 Tryz.prog 24 [.val (.list 7 (l.map O0))] (fun _=>.dead) (fun _=>false) (.own (DN 4 0)) (dyn (W2 l)):=by
 refine a8d mixed okp24 (fun i h=>by cases h) (fun i h=>by cases h) ?_
 unfold irp24
 rw [b8]
 have hl:l.length≤1048576:=hx.1
 simp [num,G5]
 refine ⟨by omega,by omega,?_⟩
 refine P5 (X:=Nat) (fun i=>⟨P9 [(0,.val (.list 7 (l.map O0))),(3,.own 7),(4,.val (num i))],b2s [(7,.prow 33 7 l.length fun j k=>if j < i then X0 l j k else .undef)] (fun k j=>if j < i then a0b l k j else .dead)⟩) (fun i=>i≤l.length) (fun i=>l.length - i) 0 (Le.mkDN _ _ _ ?_ ?_ ?_) (Nat.zero_le _) ?_
 · simp [upd,num,PV.kill]
 · intro kp hkp
   rw [List.mem_singleton.1 hkp]
   simp [upd]
   refine .rowp _ _ _ _ _ (by simp) fun j k hj hk=>?_
   exact .undef _
 · intro k j hk
   simp
   exact .dead _
 · intro i hi
   simp [num,T4,V6]
   refine P8 (fun h1=>?_) (fun h1=>?_)
   · obtain ⟨x,hxe⟩:∃ x,l[i]=x:=⟨_,rfl⟩
     have he:l[i]?=some x:=by rw [List.getElem?_eq_getElem h1,hxe]
     have hbx:Y2 1048576 x:=by rw [← hxe];exact hx.2 _ (List.getElem_mem h1)
     simp [num,h1,he,hxe,T4,V6,O0]
     refine c5l (rs:=[O0 x]) (fun k' i'=>(k' == 10) && i' == i) rfl (c5c x i hbx) ?_ ?_ ?_
     · intro k' i' hk hl
       by_cases h:i'=i
       · subst h
         rw [if_pos rfl] at hl ⊢
         rcases a2p x k' with ⟨h,E,sz,xs,e⟩ | ⟨h,_⟩
         · rw [e];exact ⟨by subst h;simp,a7o,fun cs h=>by cases h⟩
         · rw [h] at hl;cases hl
       · rw [if_neg h] at hl;cases hl
     · refine b34 x i fun k h=>?_
       subst h;simp
     simp [num,tx,h1,he,T4,V6,Z0,Z9]
     refine LoopNext.mk (i+1) h1 (by omega) (Le.mkDN _ _ _ ?_ ?_ ?_)
     · simp [num]
       exact wrap_i64 (by omega) (by omega)
     · intro kp hkp
       rw [List.mem_singleton.1 hkp]
       simp [T4,V6]
       refine .prow _ _ _ _ _ fun j k hj hk=>?_
       by_cases hji:j=i
       · subst hji
         have e:X0 l j k=(Z0 x j).getD k .undef:=by unfold X0;rw [he]
         rw [if_pos ⟨rfl,hk⟩,if_pos (by omega),e]
         exact .refl _
       · rw [if_neg (fun h=>hji h.1)]
         by_cases hj2:j < i
         · rw [if_pos hj2,if_pos (by omega),b4v]
           · exact .refl _
           · intro k h
             subst h;simp [hji]
         · rw [if_neg (by omega),if_neg (by omega)];exact .undef _
     · intro k j hk
       by_cases hji:j=i
       · subst hji
         have e:a0b l k j=Z9 x k:=by unfold a0b;rw [he]
         simp [hk,T4,V6]
         rw [e]
         rcases a2p x k with ⟨h,E,sz,xs,e⟩ | ⟨h,_⟩
         · subst h;simp [Z9]<;>exact .refl _
         · rw [h];exact .dead _
       · simp [hk,T4,V6,hji]
         by_cases hj2:j < i
         · rw [if_pos hj2,if_pos (by omega),b7m];exact .refl _
         · rw [if_neg (by omega),if_neg (by omega)];exact .dead _
   · have e:i=l.length:=by omega
     subst e
     simp [num,T4,V6]
     refine finM_G [(DN 4 0,7,a4a l)] (fun k j=>a0b l k j) ?_ ?_ ?_ ?_ ?_ ?_
     · intro k j hk
       simp [a42,W2,hk]
     · simp [ioL,PV.ren,P7,Y6]
     · intro e he
       rw [List.mem_singleton.1 he]
       refine ⟨by simp,by simp,?_⟩
       have:(a4a l).ren (ioL [(DN 4 0,7,a4a l)])=a4a l:=(b3f l (S:=TD (fun k i=>(k == 10))) fun k j h=>by subst h;simp).1 _ fun x hx=>by
        refine ioL_off fun e he=>?_
        rw [List.mem_singleton.1 he]
        rintro rfl
        simp at hx
       rw [this]
       simp [T4,V6,a4a]
       funext j k
       by_cases hj:j < l.length
       · rw [if_pos hj]
       · rw [if_neg hj];unfold X0;rw [List.getElem?_eq_none (by omega)]
     · simp
     · intro e he
       rw [List.mem_singleton.1 he];simp
     · intro k j hk hl _
       rcases a4f l k j with ⟨_,hj,E,sz,xs,e⟩ | e
       · simp [T4,V6,hk,hj]
         rw [e];rfl
       · rw [e] at hl;cases hl
end Go.Proofs
end
section
namespace Go.Proofs
open Go.PW Go.KP
attribute [local simp] RV.cells RV.one PV.cells PV.solid PV.one G5 a8 O1 O3 RV.ofCells elems PV.killL
variable [GF]
attribute [local simp] a4s a9z b6o b6p b6m b6n a2a b1z a62 b78 b2h b2i a5q
end Go.Proofs
end
section
namespace Go.Proofs
open Go.PW Go.KP
attribute [local simp] RV.cells RV.one PV.cells PV.solid PV.one G5 a8 O1 O3 RV.ofCells elems PV.killL
variable [GF]
attribute [local simp] a4s a9z b6o b6p b6m b6n a2a b1z a62 b78 b2h b2i a5q
end Go.Proofs
end
section
namespace Go.Proofs
open Go.PW Go.KP
attribute [local simp] RV.cells RV.one PV.cells PV.solid PV.one G5 a8 O1 O3 RV.ofCells elems PV.killL
variable [GH]
theorem a7m {st:St} {s t:Nat} {x1 x2 x3:PV} {r1 r2 r3 r:RV} (h1:st.env s=.ptr s 0) (h2:st.mem s=.box [x1,x2,x3]) (h5:st.env t=.val r) (g1:(x1.frz (O7 st fun _=>true)).pl=.val r1) (g2:(x2.frz (O7 st fun _=>true)).pl=.val r2) (g3:(x3.frz (O7 st fun _=>true)).pl=.val r3) :
 P7 [.c s true 3,.t t] st.fin=some (.tup [.val (.agg [r1,r2,r3]),.val r]):=by
 have e1:st.fin.env s=.ptr s 0:=by rw [K8,h1];simp [PV.frz,O7,h2,PV.pl]
 have e2:st.fin.mem s=.box [.val r1,.val r2,.val r3]:=by simp [St.fin,St.freeze,h2,MObj.pl,PV.frzL,PV.plL,g1,g2,g3]
 have e3:st.fin.env t=.val r:=by rw [K8,h5];rfl
 simp only [P7,S0,Y6,e1,e2,e3]
 simp [O1,a8]
theorem resB3a {st:St} {s:Nat} {x1 x2 x3:PV} {r1 r2 r3:RV} (h1:st.env s=.ptr s 0) (h2:st.mem s=.box [x1,x2,x3]) (g1:(x1.frz (O7 st fun _=>true)).pl=.val r1) (g2:(x2.frz (O7 st fun _=>true)).pl=.val r2) (g3:(x3.frz (O7 st fun _=>true)).pl=.val r3) :
 P7 [.c s true 3] st.fin=some (.val (.agg [r1,r2,r3])):=by
 have e1:st.fin.env s=.ptr s 0:=by rw [K8,h1];simp [PV.frz,O7,h2,PV.pl]
 have e2:st.fin.mem s=.box [.val r1,.val r2,.val r3]:=by simp [St.fin,St.freeze,h2,MObj.pl,PV.frzL,PV.plL,g1,g2,g3]
 simp only [P7,Y6,e1,e2]
 simp [O1,a8]
theorem c2x (b:LBox) (h1:b.ids.length≤1048576) (h2:b.times.length≤1048576) (h3:b.bodies.length≤1048576):i7 Tryz.prog 80 [.val (V3 b)] (.ret (.agg [.own 0,.own 1,.own 2]) [⟨3,1,b.ids.map num⟩,⟨3,1,b.times.map num⟩,⟨9,1,b.bodies.map tx⟩]) []:=by
 refine a8c (mk:=fun x y z=>.agg [.own x,.own y,.own z]) (r1:=⟨3,1,b.ids.map num⟩) (r2:=⟨3,1,b.times.map num⟩) (r3:=⟨9,1,b.bodies.map tx⟩) mixed ok80 rfl (fun _=>rfl) ?_
 unfold ir80
 rw [b8]
 simp [d6,s8,L3,b7,c8,V3,num,tx,elems,a8,RV.one,G5]
 repeat' apply And.intro
 all_goals first
  | omega
  | exact ⟨_,Le.forget rfl (fun x=>.refl _),3,7,11,by omega,by omega,by omega,by simp [P7,S0,Y6,O1,a8,PV.kill],by simp,by simp,by simp⟩
theorem c5p (b:LBox) (h1:b.ids.length≤1048576) (h2:b.times.length≤1048576) (h3:b.bodies.length≤1048576):i7 Tryz.prog 80 [.val (V3 b)] (.ret (.val (V3 b)) []) []:=by
 refine F9 mixed ok80 rfl (fun _=>rfl) ?_
 unfold ir80
 rw [b8]
 simp [d6,s8,L3,b7,c8,V3,num,tx,elems,a8,RV.one,G5]
 repeat' apply And.intro
 all_goals first
  | omega
  | exact resB3a (x1:=.own 3) (x2:=.own 7) (x3:=.own 11) (by simp) (by simp) (by simp [PV.frz,PV.pl,O7,okId,PV.kill]) (by simp [PV.frz,PV.pl,O7,okId,PV.kill]) (by simp [PV.frz,PV.pl,O7,okId,PV.kill])
theorem c_l11At (b:LBox) (id:Int) (h:b.ids.length≤1048576):i7 Tryz.prog 130 [.val (V3 b),.val (num id)] (.ret (.val (num (a4u b id))) []) []:=by
 refine F9 mixed ok130 rfl (fun _=>rfl) ?_
 unfold ir130
 rw [b8]
 simp [d6,s8,L3,b7,c8,V3,num,tx]
 refine P5 (X:=Nat) (fun i=>⟨P9 [(1,.val (num id)),(2,.ptr 2 0),(5,.val (num (i:Int)))],Q1 [(2,.box [.val (.list 1 (b.ids.map num)),.val (.list 1 (b.times.map num)),.val (.list 1 (b.bodies.map tx))])]⟩)
  (fun i=>i≤b.ids.length∧∀ j (h:j < b.ids.length),j < i→b.ids[j]≠id) (fun i=>b.ids.length - i) 0 (Le.mk _ _ ?_ ?_) ⟨Nat.zero_le _,fun j _ h=>absurd h (Nat.not_lt_zero _)⟩ ?_
 · simp [num,tx,PV.kill]
 · simp [num,tx,MObj.kill,PV.kill,PV.killL,s9]
 · rintro i ⟨hi,hno⟩
   have wi:IntKind.i64.wrap ((i:Int)+1)=((i+1:Nat):Int):=by rw [wrap_i64 (by omega) (by omega)];omega
   by_cases h1:i < b.ids.length
   · by_cases h2:b.ids[i]=id
     · have e:a4u b id=i:=a44 h1 (by simp [h2]) (fun k hk=>by simpa using hno k (by omega) hk)
       rw [e]
       simp [num,tx,h1,h2]
     · simp [num,tx,h1,h2]
       refine LoopNext.mk (i+1) ⟨h1,fun j hj hji=>?_⟩ (by omega) (Le.mk _ _ ?_ ?_)
       · by_cases e:j=i
         · subst e;exact h2
         · exact hno j hj (by omega)
       · simp [num,wi,tx]
       · simp [num,tx]
   · have e:a4u b id=-1:=a3v (fun k hk=>by simpa using hno k hk (by omega))
     rw [e]
     simp [num,tx,h1]
def rcv (b:LBox) (w:LWire):LBox×Int:=if ¬ (200≤w.status∧w.status≤299) then (b,17) else if poC w≠0 then (b,poC w) else match a0m b (poR w) with
 | none=>(b,13)
 | some x=>if 4096 < x.ids.length then (b,7) else (x,0)
def b50 (w:LWire):Prop:=-9223372036854775808≤w.status∧w.status≤9223372036854775807
theorem tdivH (n:Int):(n.tdiv 100=2)↔(200≤n∧n≤299):=by
 rcases Int.le_total 0 n with h | h
 · rw [Int.tdiv_eq_ediv_of_nonneg h];omega
 · obtain ⟨m,rfl⟩:∃ m:Int,n=-m:=⟨-n,by omega⟩
   rw [Int.neg_tdiv,Int.tdiv_eq_ediv_of_nonneg (by omega)]
   omega
theorem wquo {w:LWire} (h:b50 w):IntKind.i64.wrap (w.status.tdiv 100)=w.status.tdiv 100:=by
 obtain ⟨hl,hu⟩:=h
 rcases Int.le_total 0 w.status with h | h
 · rw [Int.tdiv_eq_ediv_of_nonneg h];exact wrap_i64 (by omega) (by omega)
 · obtain ⟨m,hm⟩:∃ m:Int,w.status=-m:=⟨-w.status,by omega⟩
   rw [hm,Int.neg_tdiv,Int.tdiv_eq_ediv_of_nonneg (by omega)]
   exact wrap_i64 (by omega) (by omega)
theorem b5n (b:LBox) (w:LWire) (hw:b50 w) (hb:BI b) (hl:b.ids.length≤1000000):i7 Tryz.prog 79 [.val (V3 b),.val (O0 w)] (.ret (.tup [.val (V3 (rcv b w).1),.val (num (rcv b w).2)]) []) []:=by
 have wq:=wquo hw
 have w2:IntKind.i64.wrap 2=2:=by decide
 have ht:=tdivH w.status
 obtain ⟨R,hR⟩:∃ R,rcv b w=R:=⟨_,rfl⟩
 rw [hR]
 unfold rcv at hR
 obtain ⟨Z,hZ⟩:∃ Z,a4o [.c 4 true 3,.t 5] (.tup [.val (V3 R.1),.val (num R.2)])=Z:=⟨_,rfl⟩
 refine F9 mixed ok79 rfl (fun _=>rfl) ?_
 rw [hZ]
 unfold ir79
 rw [b8]
 by_cases h1:200≤w.status∧w.status≤299
 rotate_left
 · rw [if_pos h1] at hR
   subst hR
   have h1':¬ w.status.tdiv 100=2:=fun h=>h1 (ht.1 h)
   simp [d6,s8,L3,b7,c8,V3,O0,num,tx,wq,w2,h1']
   rw [← hZ]
   simp
   exact a7m (x1:=.val (.list 1 (b.ids.map num))) (x2:=.val (.list 1 (b.times.map num))) (x3:=.val (.list 1 (b.bodies.map tx))) (by simp) (by simp [num,tx]) (by simp [num]) rfl rfl rfl
 rw [if_neg (fun h=>h h1)] at hR
 have h1':w.status.tdiv 100=2:=ht.2 h1
 have hp:=b70 w
 have hpb:=(b8p w).1
 generalize poR w=L at *
 generalize poC w=c at *
 simp [d6,s8,L3,b7,c8,V3,O0,num,tx,wq,w2,h1']
 refine S7 rfl rfl (.inl rfl) hp ?_
 simp [V3,O0,num,tx]
 by_cases h2:c=0
 rotate_left
 · rw [if_pos h2] at hR
   subst hR
   simp [num,tx,h2]
   rw [← hZ]
   simp
   exact a7m (x1:=.val (.list 1 (b.ids.map num))) (x2:=.val (.list 1 (b.times.map num))) (x3:=.val (.list 1 (b.bodies.map tx))) (by simp) (by simp [num,tx]) (by simp [num]) rfl rfl rfl
 rw [if_neg (fun h=>h h2)] at hR
 have hO:=c2x b (by omega) (by rw [hb.1];omega) (by rw [hb.2.1];omega)
 simp [num,tx,h2]
 refine a2k rfl rfl rfl (.inl rfl) hO ?_
 simp [num,tx,PV.shift,PV.shiftL,i8,PV.kill,PV.killL]
 refine P5 (X:=Nat×LBox) (fun q=>⟨P9 [(2,.ptr 2 0),(4,.ptr 4 0),(6,.val (.list 3 (L.map O2))),(8,.ptr 8 0),(9,.val (num (q.1:Int)))],Q1 [(2,.box [.val (.list 1 (b.ids.map num)),.val (.list 1 (b.times.map num)),.val (.list 1 (b.bodies.map tx))]),(4,.box [.emp 1,.emp 1,.emp 1]),(8,.box [.own 27000,.own 27001,.own 27002]),(27000,.row 3 1 (q.2.ids.map num)),(27001,.row 3 1 (q.2.times.map num)),(27002,.row 9 1 (q.2.bodies.map tx))]⟩)
  (fun q=>q.1≤L.length∧a0m b (L.take q.1)=some q.2) (fun q=>L.length - q.1) (0,b) (Le.mk _ _ ?_ ?_) ⟨Nat.zero_le _,rfl⟩ ?_
 · simp [num,tx,PV.kill]
 · simp [num,tx,MObj.kill,PV.kill,PV.killL,s9]
 · rintro ⟨i,y⟩ ⟨hi,hy⟩
   replace hi:i≤L.length:=hi
   replace hy:a0m b (L.take i)=some y:=hy
   have wi:IntKind.i64.wrap ((i:Int)+1)=((i+1:Nat):Int):=by rw [wrap_i64 (by omega) (by omega)];omega
   obtain ⟨⟨y1,y2,y3⟩,y4,y5⟩:=b2a hb hy
   have y4':y.ids.length≤b.ids.length+i:=by simp [List.length_take] at y4;omega
   by_cases h3:i < L.length
   · obtain ⟨p,hp0⟩:∃ p,L[i]=p:=⟨_,rfl⟩
     have hA:=c_l11At y p.id (by omega)
     unfold V3 at hA
     simp [num,tx,h3,hp0,O2]
     refine d7 rfl rfl (.inr rfl) hA ?_
     have hs0:a5p y p=if a4u y p.id < 0 then some ⟨y.ids++[p.id],y.times++[1],y.bodies++[p.body]⟩ else if y.bodies.getD (a4u y p.id).toNat []=p.body then some ⟨y.ids,y.times.set (a4u y p.id).toNat (min (y.times.getD (a4u y p.id).toNat 0+1) 1000000),y.bodies⟩ else none:=rfl
     rcases a7f y p.id with e | ⟨k,hk,e⟩
     · rw [e] at hs0 ⊢
       have hn:=a4m h3 hy (by rw [hp0];exact hs0)
       simp [num,tx,h3,hp0,O2,elems,a8,RV.one,G5,y1,y2]
       refine ⟨by omega,by omega,by omega,by omega,by omega,by omega,?_⟩
       refine LoopNext.mk (i+1,⟨y.ids++[p.id],y.times++[1],y.bodies++[p.body]⟩) ⟨h3,hn⟩ (by show L.length - (i+1) < L.length - i;omega) (Le.mk _ _ ?_ ?_)
       · simp [num,wi,tx]
       · simp [num,tx,PV.kill,MObj.kill]
     · rw [e] at hs0 ⊢
       have hk0:¬ (k:Int) < 0:=by omega
       rw [if_neg hk0] at hs0
       have hkb:k < y.bodies.length:=by omega
       have hkt:k < y.times.length:=by omega
       simp only [Int.toNat_natCast,List.getD_eq_getElem?_getD,List.getElem?_eq_getElem hkb,List.getElem?_eq_getElem hkt,Option.getD_some] at hs0
       obtain ⟨bd,hbd⟩:∃ x,y.bodies[k]=x:=⟨_,rfl⟩
       obtain ⟨tm,htm⟩:∃ x,y.times[k]=x:=⟨_,rfl⟩
       rw [hbd,htm] at hs0
       have htb:=y3 _ (List.getElem_mem hkt)
       rw [htm] at htb
       by_cases h4:bd=p.body
       · rw [if_pos h4] at hs0
         have hn:=a4m h3 hy (by rw [hp0];exact hs0)
         have hmin:(if (1000000:Int) < tm+1 then (1000000:Int) else tm+1)=min (tm+1) 1000000:=by split<;>omega
         have wt:IntKind.i64.wrap (tm+1)=tm+1:=wrap_i64 (by omega) (by omega)
         simp [num,tx,h3,hp0,O2,hk0,hk,hkb,hkt,hbd,htm,h4,wt,hmin,R2]
         refine LoopNext.mk (i+1,⟨y.ids,y.times.set k (min (tm+1) 1000000),y.bodies⟩) ⟨h3,hn⟩ (by show L.length - (i+1) < L.length - i;omega) (Le.mk _ _ ?_ ?_)
         · simp [num,wi,tx]
         · simp [num,tx,PV.kill,MObj.kill,hkt,List.map_set]
       · rw [if_neg h4] at hs0
         have hn:=b19 h3 hy (by rw [hp0];exact hs0)
         rw [hn] at hR
         simp only [] at hR
         subst hR
         simp [num,tx,h3,hp0,O2,hk0,hk,hkb,hkt,hbd,htm,h4,R2]
         rw [← hZ]
         simp
         exact a7m (x1:=.val (.list 1 (b.ids.map num))) (x2:=.val (.list 1 (b.times.map num))) (x3:=.val (.list 1 (b.bodies.map tx))) (by simp) (by simp [num,tx]) (by simp [num]) rfl rfl rfl
   · have e:i=L.length:=by omega
     subst e
     rw [List.take_length] at hy
     rw [hy] at hR
     simp only [] at hR
     by_cases h4:4096 < y.ids.length
     · have h4':(4096:Int) < (y.ids.length:Int):=by omega
       rw [if_pos h4] at hR
       subst hR
       simp [num,tx,h4,h4']
       rw [← hZ]
       simp
       exact a7m (x1:=.val (.list 1 (b.ids.map num))) (x2:=.val (.list 1 (b.times.map num))) (x3:=.val (.list 1 (b.bodies.map tx))) (by simp) (by simp [num,tx]) (by simp [num]) rfl rfl rfl
     · have h4':¬ (4096:Int) < (y.ids.length:Int):=by omega
       rw [if_neg h4] at hR
       subst hR
       simp [num,tx,h4,h4']
       rw [← hZ]
       simp
       exact a7m (x1:=.own 27000) (x2:=.own 27001) (x3:=.own 27002) (by simp) (by simp [num,tx]) (by simp [num]) (by simp [PV.frz,PV.pl,O7,okId,PV.kill]) (by simp [PV.frz,PV.pl,O7,okId,PV.kill]) (by simp [PV.frz,PV.pl,O7,okId,PV.kill])
end Go.Proofs
end
section
namespace Go.Proofs
open Go.PW Go.KP
attribute [local simp] RV.cells RV.one PV.cells PV.solid PV.one G5 a8 O1 O3 RV.ofCells elems PV.killL
variable [GH]
def BJ (b:LBox):Prop:=KP.BI b∧b.ids.length≤4096∧∀ s∈b.bodies,s.length≤8000
theorem b8k {b:LBox} {w:LWire} (h:BJ b):BJ (rcv b w).1:=by
 unfold rcv
 split
 · exact h
 split
 · exact h
 split
 · exact h
 · rename_i x hx
   split
   · exact h
   · rename_i h4
     obtain ⟨a1,a2,a3⟩:=b2a h.1 hx
     refine ⟨a1,by show x.ids.length≤4096;omega,fun s hs=>?_⟩
     rcases a3 s hs with hs | ⟨p,hp,rfl⟩
     · exact h.2.2 s hs
     · exact (b8p w).2 p hp
def a1e:LBox:=⟨[],[],[]⟩
theorem a8j:BJ a1e:=⟨⟨rfl,rfl,by simp [a1e]⟩,Nat.zero_le _,by simp [a1e]⟩
def a8p:LBox→List LWire→LBox×Int
 | b,[]=>(b,0)
 | b,w :: ws=>if (rcv b w).2≠0∧(rcv b w).2≠17 then (a1e,(rcv b w).2) else a8p (rcv b w).1 ws
def a3r (ws:List LWire):LBox×Int:=if 4096 < ws.length then (a1e,2) else a8p a1e ws
theorem rall_BJ {b:LBox} {ws:List LWire} (h:BJ b):BJ (a8p b ws).1:=by
 induction ws generalizing b with
 | nil=>exact h
 | cons w ws ih=>
  unfold a8p
  split
  · exact a8j
  · exact ih (b8k h)
theorem c3t (ws:List LWire):BJ (a3r ws).1:=by
 unfold a3r
 split
 · exact a8j
 · exact rall_BJ a8j
theorem b3b {y:LBox} {ws:List LWire} {i:Nat} (h:i < ws.length):a8p y (ws.drop i)=if (rcv y ws[i]).2≠0∧(rcv y ws[i]).2≠17 then (a1e,(rcv y ws[i]).2) else a8p (rcv y ws[i]).1 (ws.drop (i+1)):=by
 rw [List.drop_eq_getElem_cons h];rfl
theorem c5q (ws:List LWire) (hw:∀ w∈ws,b50 w) (hl:ws.length≤1048576):i7 Tryz.prog 70 [.val (.list 7 (ws.map O0))] (.ret (.tup [.val (V3 (a8p a1e ws).1),.val (num (a8p a1e ws).2)]) []) []:=by
 obtain ⟨R,hR⟩:∃ R,a8p a1e ws=R:=⟨_,rfl⟩
 rw [hR]
 obtain ⟨Z,hZ⟩:∃ Z,a4o [.c 2 true 3,.t 3] (.tup [.val (V3 R.1),.val (num R.2)])=Z:=⟨_,rfl⟩
 refine F9 mixed ok70 rfl (fun _=>rfl) ?_
 rw [hZ]
 have hO:=c5p a1e (by simp [a1e]) (by simp [a1e]) (by simp [a1e])
 unfold ir70
 rw [b8]
 unfold V3 a1e at hO
 simp [d6,s8,L3,b7,c8,num,tx]
 refine d7 rfl rfl (.inl rfl) hO ?_
 simp [num,tx,PV.kill,PV.killL]
 refine P5 (X:=Nat×LBox) (fun q=>⟨P9 [(0,.val (.list 7 (ws.map O0))),(2,.ptr 2 0),(4,.ptr 4 0),(5,.val (num (q.1:Int)))],Q1 [(2,.box [.emp 1,.emp 1,.emp 1]),(4,.box [.val (.list 1 (q.2.ids.map num)),.val (.list 1 (q.2.times.map num)),.val (.list 1 (q.2.bodies.map tx))])]⟩)
  (fun q=>q.1≤ws.length∧BJ q.2∧a8p q.2 (ws.drop q.1)=R) (fun q=>ws.length - q.1) (0,a1e) (Le.mk _ _ ?_ ?_) ⟨Nat.zero_le _,a8j,hR⟩ ?_
 · simp [num,tx,PV.kill]
 · simp [num,tx,MObj.kill,PV.kill,PV.killL,s9,a1e]
 · rintro ⟨i,y⟩ ⟨hi,hJ,hy⟩
   replace hi:i≤ws.length:=hi
   replace hJ:BJ y:=hJ
   replace hy:a8p y (ws.drop i)=R:=hy
   have wi:IntKind.i64.wrap ((i:Int)+1)=((i+1:Nat):Int):=by rw [wrap_i64 (by omega) (by omega)];omega
   by_cases h3:i < ws.length
   · rw [b3b h3] at hy
     have hs:=hw _ (List.getElem_mem h3)
     have hC:=b5n y ws[i] hs hJ.1 (by have:=hJ.2.1;omega)
     have hJ':BJ (rcv y ws[i]).1:=b8k hJ
     obtain ⟨w,hwi⟩:∃ w,ws[i]=w:=⟨_,rfl⟩
     rw [hwi] at hC hy hJ'
     obtain ⟨⟨z,c⟩,hz⟩:∃ z,rcv y w=z:=⟨_,rfl⟩
     rw [hz] at hC hy hJ'
     unfold V3 O0 at hC
     simp [num,tx,h3,hwi,O0]
     constructor
     all_goals
      refine S7 rfl rfl (.inl rfl) hC ?_
      by_cases h4:c=0
      · rw [if_neg (by simp [h4])] at hy
        simp [num,tx,h4,PV.kill,PV.killL]
        refine LoopNext.mk (i+1,z) ⟨h3,hJ',hy⟩ (by show ws.length - (i+1) < ws.length - i;omega) (Le.mk _ _ ?_ ?_)
        · simp [num,wi,tx]
        · simp [num,tx,PV.kill,MObj.kill]
      by_cases h5:c=17
      · rw [if_neg (by simp [h5])] at hy
        simp [num,tx,h4,h5,PV.kill,PV.killL]
        refine LoopNext.mk (i+1,z) ⟨h3,hJ',hy⟩ (by show ws.length - (i+1) < ws.length - i;omega) (Le.mk _ _ ?_ ?_)
        · simp [num,wi,tx]
        · simp [num,tx,PV.kill,MObj.kill]
      rw [if_pos ⟨h4,h5⟩] at hy
      subst hy
      simp [num,tx,h4,h5,PV.kill,PV.killL]
      rw [← hZ]
      simp
      exact a7m (x1:=.emp 1) (x2:=.emp 1) (x3:=.emp 1) (by simp) (by simp [num,tx]) (by simp [num]) rfl rfl rfl
   · have e:i=ws.length:=by omega
     subst e
     rw [List.drop_length] at hy
     subst hy
     simp [num,tx]
     rw [← hZ]
     simp
     exact a7m (x1:=.val (.list 1 (y.ids.map num))) (x2:=.val (.list 1 (y.times.map num))) (x3:=.val (.list 1 (y.bodies.map tx))) (by simp) (by simp [num,tx]) (by simp [num];rfl) rfl rfl rfl
theorem b5r (ws:List LWire) (hw:∀ w∈ws,b50 w) (hl:ws.length≤1048576):i7 Tryz.prog 23 [.val (.list 7 (ws.map O0))] (.ret (.tup [.val (V3 (a3r ws).1),.val (num (a3r ws).2)]) []) []:=by
 obtain ⟨R,hR⟩:∃ R,a3r ws=R:=⟨_,rfl⟩
 rw [hR]
 unfold a3r at hR
 obtain ⟨Z,hZ⟩:∃ Z,a4o [.c 2 true 3,.t 3] (.tup [.val (V3 R.1),.val (num R.2)])=Z:=⟨_,rfl⟩
 refine F9 mixed ok23 rfl (fun _=>rfl) ?_
 rw [hZ]
 unfold ir23
 rw [b8]
 by_cases h:4096 < ws.length
 · have h':(4096:Int) < (ws.length:Int):=by omega
   rw [if_pos h] at hR
   subst hR
   simp [d6,s8,L3,b7,c8,num,tx,h,h']
   rw [← hZ]
   simp
   exact a7m (x1:=.emp 1) (x2:=.emp 1) (x3:=.emp 1) (by simp) (by simp [num,tx]) (by simp [num]) rfl rfl rfl
 · have h':¬ (4096:Int) < (ws.length:Int):=by omega
   rw [if_neg h] at hR
   have hC:=c5q ws hw hl
   rw [hR] at hC
   unfold V3 at hC
   simp [d6,s8,L3,b7,c8,num,tx,h,h']
   refine S7 rfl rfl (.inl rfl) hC ?_
   simp [num,tx]
   rw [← hZ]
   simp
   exact a7m (x1:=.val (.list 1 (R.1.ids.map num))) (x2:=.val (.list 1 (R.1.times.map num))) (x3:=.val (.list 1 (R.1.bodies.map tx))) (by simp) (by simp [num,tx]) (by simp [num]) rfl rfl rfl
end Go.Proofs
end
section
namespace Go.Proofs
open Go.PW Go.KP
attribute [local simp] RV.cells RV.one PV.cells PV.solid PV.one G5 a8 O1 O3 RV.ofCells elems PV.killL
variable [GH]
theorem a9t (l:List Int) (hl:l.length≤1048576):i7 Tryz.prog 189 [.val (.list 1 (l.map num))] (.ret (.own 0) [⟨3,1,l.map num⟩]) []:=by
 refine a8b (mk:=fun i=>.own i) mixed ok189 rfl (fun _=>rfl) ?_
 unfold ir189
 rw [b8]
 simp [d6,s8,L3,b7,c8,num,tx,elems,a8,RV.one,G5]
 refine ⟨fun h=>?_,?_⟩
 · subst h
   exact b6b 1 600 (by omega) (.inl (by omega)) (by simp)
 · repeat' apply And.intro
   all_goals first
    | omega
    | exact b6a 5 (by simp) (by simp)
theorem b7e (l:List Tx) (hl:l.length≤1048576):i7 Tryz.prog 190 [.val (.list 1 (l.map tx))] (.ret (.own 0) [⟨9,1,l.map tx⟩]) []:=by
 refine a8b (mk:=fun i=>.own i) mixed ok190 rfl (fun _=>rfl) ?_
 unfold ir190
 rw [b8]
 simp [d6,s8,L3,b7,c8,num,tx,elems,a8,RV.one,G5]
 refine ⟨fun h=>?_,?_⟩
 · subst h
   exact b6b 1 600 (by omega) (.inl (by omega)) (by simp)
 · repeat' apply And.intro
   all_goals first
    | omega
    | exact b6a 5 (by simp) (by simp)
theorem c42 (b:LBox) (h1:b.ids.length≤1048576) (h2:b.times.length≤1048576) (h3:b.bodies.length≤1048576):i7 Tryz.prog 126 [.val (V3 b)] (.ret (.agg [.own 0,.own 1,.own 2]) [⟨3,1,b.ids.map num⟩,⟨3,1,b.times.map num⟩,⟨9,1,b.bodies.map tx⟩]) []:=by
 refine a8c (mk:=fun x y z=>.agg [.own x,.own y,.own z]) (r1:=⟨3,1,b.ids.map num⟩) (r2:=⟨3,1,b.times.map num⟩) (r3:=⟨9,1,b.bodies.map tx⟩) mixed ok126 rfl (fun _=>rfl) ?_
 unfold ir126
 rw [b8]
 simp [d6,s8,L3,b7,c8,V3,num,tx,elems,a8,RV.one,G5]
 refine a5k rfl rfl rfl (.inl rfl) (a9t b.ids h1) ?_
 simp [num,tx,PV.shift,PV.shiftL,i8,PV.kill,PV.killL]
 refine a5k rfl rfl rfl (.inl rfl) (a9t b.times h2) ?_
 simp [num,tx,PV.shift,PV.shiftL,i8,PV.kill,PV.killL]
 refine a5k rfl rfl rfl (.inl rfl) (b7e b.bodies h3) ?_
 simp [num,tx,PV.shift,PV.shiftL,i8,PV.kill,PV.killL]
 exact ⟨_,Le.forget rfl (fun x=>.refl _),6000,9000,12000,by omega,by omega,by omega,by simp [P7,S0,Y6,O1,a8,PV.kill],by simp,by simp,by simp⟩
theorem b9f (n:Int):i7 Tryz.prog 127 [.val (num n)] (.ret (.val (.bool (decide (200≤n∧n≤299)))) []) []:=by
 refine F9 mixed ok127 rfl (fun _=>rfl) ?_
 unfold ir127
 rw [b8]
 have h:=a0r n 200 299
 simp [d6,s8,L3,b7,c8,num]
 refine d7 rfl rfl (.inl rfl) h ?_
 simp
theorem c2f (b:LBox) (w:LWire) (hb:KP.BI b) (hl:b.ids.length≤1000000):i7 Tryz.prog 72 [.val (V3 b),.val (O0 w)] (.ret (.tup [.agg [.own 0,.own 1,.own 2],.val (num (rcv b w).2)]) [⟨3,1,(rcv b w).1.ids.map num⟩,⟨3,1,(rcv b w).1.times.map num⟩,⟨9,1,(rcv b w).1.bodies.map tx⟩]) []:=by
 obtain ⟨R,hR⟩:∃ R,rcv b w=R:=⟨_,rfl⟩
 rw [hR]
 unfold rcv at hR
 obtain ⟨Z,hZ⟩:∃ Z,b76 [.c 4 true 3,.t 5] (fun x y z=>.tup [.agg [.own x,.own y,.own z],.val (num R.2)]) ⟨3,1,R.1.ids.map num⟩ ⟨3,1,R.1.times.map num⟩ ⟨9,1,R.1.bodies.map tx⟩=Z:=⟨_,rfl⟩
 refine a8c (mk:=fun x y z=>.tup [.agg [.own x,.own y,.own z],.val (num R.2)]) (r1:=⟨3,1,R.1.ids.map num⟩) (r2:=⟨3,1,R.1.times.map num⟩) (r3:=⟨9,1,R.1.bodies.map tx⟩) mixed ok72 rfl (fun _=>rfl) ?_
 rw [hZ]
 unfold ir72
 rw [b8]
 have hS:=b9f w.status
 have hp:=b7b w
 have hpb:=(b8p w).1
 have hO:=c42 b (by omega) (by rw [hb.1];omega) (by rw [hb.2.1];omega)
 unfold V3 at hO
 generalize poR w=L at *
 generalize poC w=c at *
 simp [d6,s8,L3,b7,c8,V3,O0,num,tx]
 refine a2k rfl rfl rfl (.inl rfl) hO ?_
 simp [num,tx,PV.shift,PV.shiftL,i8,PV.kill,PV.killL]
 refine d7 rfl rfl (.inl rfl) hS ?_
 by_cases h1:200≤w.status∧w.status≤299
 rotate_left
 · rw [if_pos h1] at hR
   subst hR
   rw [decide_eq_false h1]
   simp [num,tx,PV.kill,PV.killL]
   rw [← hZ]
   exact a2i 14000 14001 14002 (by omega) (by omega) (by omega) (by simp) (by simp) (by simp [num]) (by simp) (by simp) (by simp)
 rw [if_neg (fun h=>h h1)] at hR
 rw [decide_eq_true h1]
 unfold O0 at hp
 simp [num,tx,PV.kill,PV.killL]
 refine a5k rfl rfl rfl (.inl rfl) hp ?_
 simp [num,tx,PV.shift,PV.shiftL,i8,PV.kill,PV.killL]
 by_cases h2:c=0
 rotate_left
 · rw [if_pos h2] at hR
   subst hR
   simp [num,tx,h2,PV.kill,PV.killL]
   rw [← hZ]
   exact a2i 14000 14001 14002 (by omega) (by omega) (by omega) (by simp) (by simp) (by simp [num]) (by simp) (by simp) (by simp)
 rw [if_neg (fun h=>h h2)] at hR
 simp [num,tx,h2,PV.kill,PV.killL]
 refine P5 (X:=Nat×LBox) (fun q=>⟨P9 [(2,.ptr 2 0),(4,.ptr 4 0),(6,.ptr 6 0),(28,.own 22000),(29,.val (num L.length)),(30,.val (num (q.1:Int)))],Q1 [(2,.box [.val (.list 1 (b.ids.map num)),.val (.list 1 (b.times.map num)),.val (.list 1 (b.bodies.map tx))]),(4,.box [.emp 1,.emp 1,.emp 1]),(6,.box [.own 14000,.own 14001,.own 14002]),(22000,.row 94 3 (L.map O2)),(14000,.row 3 1 (q.2.ids.map num)),(14001,.row 3 1 (q.2.times.map num)),(14002,.row 9 1 (q.2.bodies.map tx))]⟩)
  (fun q=>q.1≤L.length∧a0m b (L.take q.1)=some q.2) (fun q=>L.length - q.1) (0,b) (Le.mk _ _ ?_ ?_) ⟨Nat.zero_le _,rfl⟩ ?_
 · simp [num,tx,PV.kill]
 · simp [num,tx,MObj.kill,PV.kill,PV.killL,s9]
 · rintro ⟨i,y⟩ ⟨hi,hy⟩
   replace hi:i≤L.length:=hi
   replace hy:a0m b (L.take i)=some y:=hy
   have wi:IntKind.i64.wrap ((i:Int)+1)=((i+1:Nat):Int):=by rw [wrap_i64 (by omega) (by omega)];omega
   obtain ⟨⟨y1,y2,y3⟩,y4,y5⟩:=b2a hb hy
   have y4':y.ids.length≤b.ids.length+i:=by simp [List.length_take] at y4;omega
   by_cases h3:i < L.length
   · obtain ⟨p,hp0⟩:∃ p,L[i]=p:=⟨_,rfl⟩
     have hA:=b7c y.ids p.id (by omega)
     have eA:(a2r y.ids fun x=>decide (x=p.id))=a4u y p.id:=rfl
     rw [eA] at hA
     simp [num,tx,h3,hp0,O2]
     refine d7 rfl rfl (.inr rfl) hA ?_
     have hs0:a5p y p=if a4u y p.id < 0 then some ⟨y.ids++[p.id],y.times++[1],y.bodies++[p.body]⟩ else if y.bodies.getD (a4u y p.id).toNat []=p.body then some ⟨y.ids,y.times.set (a4u y p.id).toNat (min (y.times.getD (a4u y p.id).toNat 0+1) 1000000),y.bodies⟩ else none:=rfl
     rcases a7f y p.id with e | ⟨k,hk,e⟩
     · rw [e] at hs0 ⊢
       have hn:=a4m h3 hy (by rw [hp0];exact hs0)
       simp [num,tx,h3,hp0,O2,elems,a8,RV.one,G5,y1,y2]
       refine ⟨by omega,by omega,by omega,by omega,by omega,by omega,?_⟩
       refine LoopNext.mk (i+1,⟨y.ids++[p.id],y.times++[1],y.bodies++[p.body]⟩) ⟨h3,hn⟩ (by show L.length - (i+1) < L.length - i;omega) (Le.mk _ _ ?_ ?_)
       · simp [num,wi,tx,PV.kill]
       · simp [num,tx,PV.kill,MObj.kill]
     · rw [e] at hs0 ⊢
       have hk0:¬ (k:Int) < 0:=by omega
       rw [if_neg hk0] at hs0
       have hkb:k < y.bodies.length:=by omega
       have hkt:k < y.times.length:=by omega
       simp only [Int.toNat_natCast,List.getD_eq_getElem?_getD,List.getElem?_eq_getElem hkb,List.getElem?_eq_getElem hkt,Option.getD_some] at hs0
       obtain ⟨bd,hbd⟩:∃ x,y.bodies[k]=x:=⟨_,rfl⟩
       obtain ⟨tm,htm⟩:∃ x,y.times[k]=x:=⟨_,rfl⟩
       rw [hbd,htm] at hs0
       have htb:=y3 _ (List.getElem_mem hkt)
       rw [htm] at htb
       by_cases h4:bd=p.body
       · rw [if_pos h4] at hs0
         have hn:=a4m h3 hy (by rw [hp0];exact hs0)
         have hmin:(if (1000000:Int) < tm+1 then (1000000:Int) else tm+1)=min (tm+1) 1000000:=by split<;>omega
         have wt:IntKind.i64.wrap (tm+1)=tm+1:=wrap_i64 (by omega) (by omega)
         simp [num,tx,h3,hp0,O2,hk0,hk,hkb,hkt,hbd,htm,h4,wt,hmin,R2]
         refine LoopNext.mk (i+1,⟨y.ids,y.times.set k (min (tm+1) 1000000),y.bodies⟩) ⟨h3,hn⟩ (by show L.length - (i+1) < L.length - i;omega) (Le.mk _ _ ?_ ?_)
         · simp [num,wi,tx,PV.kill]
         · simp [num,tx,PV.kill,MObj.kill,hkt,List.map_set]
       · rw [if_neg h4] at hs0
         have hn:=b19 h3 hy (by rw [hp0];exact hs0)
         rw [hn] at hR
         simp only [] at hR
         subst hR
         simp [num,tx,h3,hp0,O2,hk0,hk,hkb,hkt,hbd,htm,h4,R2]
         refine a2k rfl rfl rfl (.inl rfl) hO ?_
         simp [num,tx,PV.shift,PV.shiftL,i8,PV.kill,PV.killL]
         rw [← hZ]
         exact a2i 70000 70001 70002 (by omega) (by omega) (by omega) (by simp) (by simp) (by simp [num]) (by simp) (by simp) (by simp)
   · have e:i=L.length:=by omega
     subst e
     rw [List.take_length] at hy
     rw [hy] at hR
     simp only [] at hR
     by_cases h4:4096 < y.ids.length
     · have h4':(4096:Int) < (y.ids.length:Int):=by omega
       rw [if_pos h4] at hR
       subst hR
       simp [num,tx,h4,h4']
       refine a2k rfl rfl rfl (.inl rfl) hO ?_
       simp [num,tx,PV.shift,PV.shiftL,i8,PV.kill,PV.killL]
       rw [← hZ]
       exact a2i 88000 88001 88002 (by omega) (by omega) (by omega) (by simp) (by simp) (by simp [num]) (by simp) (by simp) (by simp)
     · have h4':¬ (4096:Int) < (y.ids.length:Int):=by omega
       rw [if_neg h4] at hR
       subst hR
       simp [num,tx,h4,h4',PV.kill,PV.killL]
       rw [← hZ]
       exact a2i 14000 14001 14002 (by omega) (by omega) (by omega) (by simp) (by simp) (by simp [num]) (by simp) (by simp) (by simp)
end Go.Proofs
end
section
namespace Go.PW
variable [GF]
theorem Le.adopt3 {st:St} {E1 E2 E3:Nat} (b d1 d2 d3 z:Nat) (f1:T6 d1) (f2:T6 d2) (f3:T6 d3) (h1:b≠d1) (h2:b≠d2) (h3:b≠d3) (h12:d1≠d2) (h13:d1≠d3) (h23:d2≠d3) (hm:st.mem b=.box [.emp z,.emp z,.emp z]) :
 ∃ st',Le st st'∧(∀ x r,st.env x=.val r→st'.env x=.val r)∧(∀ x i o,st.env x=.ptr i o→i≠d1→i≠d2→i≠d3→st'.env x=.ptr i o)∧st'.mem b=.box [.own d1,.own d2,.own d3]∧st'.mem d1=.row E1 1 []∧st'.mem d2=.row E2 1 []∧st'.mem d3=.row E3 1 []∧∀ i,i≠b→i≠d1→i≠d2→i≠d3→st'.mem i=(((st.mem i).kill (· == d1)).kill (· == d2)).kill (· == d3):=by
 have e12:(d1 == d2)=false:=by simp [h12]
 have e13:(d1 == d3)=false:=by simp [h13]
 have e23:(d2 == d3)=false:=by simp [h23]
 have a1:=Le.adoptBox (st:=st) b d1 E1 1 [.emp z,.emp z,.emp z] [.own d1,.emp z,.emp z] (by omega) f1 h1 hm rfl (fun j hj=>by
  have:j=0∨j=1∨j=2:=by simp at hj;omega
  rcases this with rfl | rfl | rfl
  · exact .emp z
  · exact .kill (.emp z)
  · exact .kill (.emp z))
 have a2:=Le.adoptBox (st:=⟨fun x=>(st.env x).kill (· == d1),upd d1 (.row E1 1 []) (upd b (.box [.own d1,.emp z,.emp z]) fun i=>(st.mem i).kill (· == d1))⟩) b d2 E2 1 [.own d1,.emp z,.emp z] [.own d1,.own d2,.emp z] (by omega) f2 h2 (by simp [upd,h1]) rfl (fun j hj=>by
  have:j=0∨j=1∨j=2:=by simp at hj;omega
  rcases this with rfl | rfl | rfl
  · have:=Ad.kill (d:=d2) (.own d1)
    simpa [PV.kill,e12] using this
  · exact .emp z
  · exact .kill (.emp z))
 have a3:=Le.adoptBox (st:=⟨fun x=>((st.env x).kill (· == d1)).kill (· == d2),upd d2 (.row E2 1 []) (upd b (.box [.own d1,.own d2,.emp z]) fun i=>(upd d1 (.row E1 1 []) (upd b (.box [.own d1,.emp z,.emp z]) fun i=>(st.mem i).kill (· == d1)) i).kill (· == d2))⟩) b d3 E3 1 [.own d1,.own d2,.emp z] [.own d1,.own d2,.own d3] (by omega) f3 h3 (by simp [upd,h2]) rfl (fun j hj=>by
  have:j=0∨j=1∨j=2:=by simp at hj;omega
  rcases this with rfl | rfl | rfl
  · have:=Ad.kill (d:=d3) (.own d1)
    simpa [PV.kill,e13] using this
  · have:=Ad.kill (d:=d3) (.own d2)
    simpa [PV.kill,e23] using this
  · exact .emp z)
 refine ⟨_,(a1.trans a2).trans a3,fun x r h=>?_,fun x i o h g1 g2 g3=>?_,?_,?_,?_,?_,fun i g g1 g2 g3=>?_⟩
 · simp [h,PV.kill]
 · simp [h,PV.kill,g1,g2,g3]
 · simp [upd,h3]
 · simp [upd,h13,h12,h1.symm,MObj.kill]
 · simp [upd,h23,h2.symm,MObj.kill]
 · simp [upd]
 · simp [upd,g,g1,g2,g3]
theorem Le.adopt3L {st st2:St} (b d1 d2 d3 E1 E2 E3 z:Nat) (f1:T6 d1) (f2:T6 d2) (f3:T6 d3) (h1:b≠d1) (h2:b≠d2) (h3:b≠d3) (h12:d1≠d2) (h13:d1≠d3) (h23:d2≠d3) (hm:st.mem b=.box [.emp z,.emp z,.emp z])
 (h:∀ st':St,(∀ x r,st.env x=.val r→st'.env x=.val r)→(∀ x i o,st.env x=.ptr i o→i≠d1→i≠d2→i≠d3→st'.env x=.ptr i o)→st'.mem b=.box [.own d1,.own d2,.own d3]→st'.mem d1=.row E1 1 []→st'.mem d2=.row E2 1 []→st'.mem d3=.row E3 1 []→(∀ i,i≠b→i≠d1→i≠d2→i≠d3→st'.mem i=(((st.mem i).kill (· == d1)).kill (· == d2)).kill (· == d3))→Le st' st2):Le st st2:=by
 obtain ⟨st',hle,a1,a2,a3,a4,a5,a6,a7⟩:=Le.adopt3 (E1:=E1) (E2:=E2) (E3:=E3) b d1 d2 d3 z f1 f2 f3 h1 h2 h3 h12 h13 h23 hm
 exact hle.trans (h st' a1 a2 a3 a4 a5 a6 a7)
end Go.PW
namespace Go.Proofs
open Go.PW Go.KP
attribute [local simp] RV.cells RV.one PV.cells PV.solid PV.one G5 a8 O1 O3 RV.ofCells elems PV.killL
variable [GH]
theorem b5i (ws:List LWire) (hl:ws.length≤1048576):i7 Tryz.prog 25 [.val (.list 7 (ws.map O0))] (.ret (.tup [.agg [.own 0,.own 1,.own 2],.val (num (a3r ws).2)]) [⟨3,1,(a3r ws).1.ids.map num⟩,⟨3,1,(a3r ws).1.times.map num⟩,⟨9,1,(a3r ws).1.bodies.map tx⟩]) []:=by
 obtain ⟨R,hR⟩:∃ R,a3r ws=R:=⟨_,rfl⟩
 rw [hR]
 unfold a3r at hR
 obtain ⟨Z,hZ⟩:∃ Z,b76 [.c 2 true 3,.t 3] (fun x y z=>.tup [.agg [.own x,.own y,.own z],.val (num R.2)]) ⟨3,1,R.1.ids.map num⟩ ⟨3,1,R.1.times.map num⟩ ⟨9,1,R.1.bodies.map tx⟩=Z:=⟨_,rfl⟩
 refine a8c (mk:=fun x y z=>.tup [.agg [.own x,.own y,.own z],.val (num R.2)]) (r1:=⟨3,1,R.1.ids.map num⟩) (r2:=⟨3,1,R.1.times.map num⟩) (r3:=⟨9,1,R.1.bodies.map tx⟩) mixed ok25 rfl (fun _=>rfl) ?_
 rw [hZ]
 have hL:=b9h ws.length
 unfold ir25
 rw [b8]
 simp [d6,s8,L3,b7,c8,num,tx]
 refine d7 rfl rfl (.inl rfl) hL ?_
 by_cases h0:4096 < ws.length
 · have h0':¬ (ws.length:Int)≤4096:=by omega
   rw [if_pos h0] at hR
   subst hR
   rw [if_neg h0']
   simp [num,tx,PV.kill,PV.killL]
   rw [← hZ]
   exact b3a 1 (by omega) (by omega) (by simp) (by simp) (by simp [num])
 have h0':(ws.length:Int)≤4096:=by omega
 rw [if_neg h0] at hR
 rw [if_pos h0']
 simp [num,tx,PV.kill,PV.killL]
 refine P5 (X:=Nat×LBox) (fun q=>⟨P9 [(2,.ptr 2 0),(5,.ptr 5 0),(18,.val (.list 7 (ws.map O0))),(19,.val (num ws.length)),(20,.val (num (q.1:Int)))],Q1 [(2,.box [.emp 1,.emp 1,.emp 1]),(5,.box [.own 28000,.own 28001,.own 28002]),(28000,.row 3 1 (q.2.ids.map num)),(28001,.row 3 1 (q.2.times.map num)),(28002,.row 9 1 (q.2.bodies.map tx))]⟩)
  (fun q=>q.1≤ws.length∧BJ q.2∧a8p q.2 (ws.drop q.1)=R) (fun q=>ws.length - q.1) (0,a1e) ?_ ⟨Nat.zero_le _,a8j,hR⟩ ?_
 · refine Le.adopt3L 5 28000 28001 28002 3 3 9 1 (.inr (by omega)) (.inr (by omega)) (.inr (by omega)) (by omega) (by omega) (by omega) (by omega) (by omega) (by omega) (by simp) (fun st' he hp hb r1 r2 r3 hm=>Le.mk _ _ ?_ ?_)
   · simp [num,tx,PV.kill]
     exact ⟨hp 2 2 0 (by simp) (by omega) (by omega) (by omega),hp 5 5 0 (by simp) (by omega) (by omega) (by omega),he _ _ (by simp [num,tx]),he _ _ (by simp [num,tx]),he _ _ (by simp [num,tx])⟩
   · simp [num,tx,MObj.kill,PV.kill,PV.killL,s9,hb,r1,r2,r3,a1e]
     rw [hm 2 (by omega) (by omega) (by omega) (by omega)]
     simp [MObj.kill,PV.kill,PV.killL]
 · rintro ⟨i,y⟩ ⟨hi,hJ,hy⟩
   replace hi:i≤ws.length:=hi
   replace hJ:BJ y:=hJ
   replace hy:a8p y (ws.drop i)=R:=hy
   have wi:IntKind.i64.wrap ((i:Int)+1)=((i+1:Nat):Int):=by rw [wrap_i64 (by omega) (by omega)];omega
   by_cases h3:i < ws.length
   · rw [b3b h3] at hy
     have hC:=c2f y ws[i] hJ.1 (by have:=hJ.2.1;omega)
     have hJ':BJ (rcv y ws[i]).1:=b8k hJ
     obtain ⟨w,hwi⟩:∃ w,ws[i]=w:=⟨_,rfl⟩
     rw [hwi] at hC hy hJ'
     obtain ⟨⟨z,c⟩,hz⟩:∃ z,rcv y w=z:=⟨_,rfl⟩
     rw [hz] at hC hy hJ'
     unfold V3 O0 at hC
     simp [num,tx,h3,hwi,O0]
     refine a2k rfl rfl rfl (.inr ⟨by simp [PV.flat,PV.flat.go,RV.flat,num],a2y (f:=num) (fun _=>rfl) _,a2y (f:=num) (fun _=>rfl) _,a2y (f:=tx) (fun _=>rfl) _⟩) hC ?_
     by_cases h4:c=0
     · rw [if_neg (by simp [h4])] at hy
       simp [num,tx,h4,PV.shift,PV.shiftL,i8,PV.kill,PV.killL]
       refine LoopNext.mk (i+1,z) ⟨h3,hJ',hy⟩ (by show ws.length - (i+1) < ws.length - i;omega) (Le.mk _ _ ?_ ?_)
       · simp [num,wi,tx,PV.kill]
       · simp [num,tx,PV.kill,MObj.kill,PV.killL]
     by_cases h5:c=17
     · rw [if_neg (by simp [h5])] at hy
       simp [num,tx,h4,h5,PV.shift,PV.shiftL,i8,PV.kill,PV.killL]
       refine LoopNext.mk (i+1,z) ⟨h3,hJ',hy⟩ (by show ws.length - (i+1) < ws.length - i;omega) (Le.mk _ _ ?_ ?_)
       · simp [num,wi,tx,PV.kill]
       · simp [num,tx,PV.kill,MObj.kill,PV.killL]
     rw [if_pos ⟨h4,h5⟩] at hy
     subst hy
     simp [num,tx,h4,h5,PV.shift,PV.shiftL,i8,PV.kill,PV.killL]
     rw [← hZ]
     exact b3a 1 (by omega) (by omega) (by simp) (by simp) (by simp [num])
   · have e:i=ws.length:=by omega
     subst e
     rw [List.drop_length] at hy
     subst hy
     simp [num,tx,PV.kill,PV.killL]
     rw [← hZ]
     exact a2i 28000 28001 28002 (by omega) (by omega) (by omega) (by simp) (by simp) (by simp [num];rfl) (by simp;rfl) (by simp;rfl) (by simp;rfl)
end Go.Proofs
end
section
namespace Go.Proofs
open Go.PW Go.KP
attribute [local simp] RV.cells RV.one PV.cells PV.solid PV.one G5 a8 O1 O3 RV.ofCells elems PV.killL
variable [GF]
attribute [local simp] a4s a9z b6o b6p b6m b6n a2a b1z a62 b78 b2h b2i a5q
theorem b7p (l:List LWire) (k:Nat) (hx:bdS 1048576 (Y2 1048576) l) (hk:k+Z5 Y9 l < 8388608):U2 Tryz.prog 28 [.own (DN 4 0),.val (num k)] (dyn (W2 l)) (fun _=>false) (.val (num ((k+Z5 Y9 l:Nat):Int))) (fun _=>.dead):=by
 refine a8d mixed okp28 (fun i h=>c5a h) (fun i h=>by cases h) ?_
 unfold irp28
 rw [b8]
 have hl:l.length≤1048576:=hx.1
 simp [num]
 refine P5 (X:=Nat) (fun i=>⟨P9 [(0,.own (DN 4 0)),(1,.val (num ((k+Z5 Y9 (l.take i):Nat):Int))),(5,.val (num i))],b2s [] (fun k' j=>if k'=4∧j=0 then .prow 33 7 l.length (fun j k=>if i≤j then X0 l j k else .undef) else if i≤j then a0b l k' j else .dead)⟩) (fun i=>i≤l.length) (fun i=>l.length - i) 0 (Le.mkDN _ _ _ ?_ ?_ ?_) (Nat.zero_le _) ?_
 · simp [upd,num,PV.kill,Z5]
 · intro kp hkp;cases hkp
 · intro k' j hk'
   simp [hk',W2,a4a]
   exact .refl _
 · intro i hi
   unfold irp28_l6
   by_cases h1:i < l.length
   · obtain ⟨x,hxe⟩:∃ x,l[i]=x:=⟨_,rfl⟩
     have he:l[i]?=some x:=by rw [List.getElem?_eq_getElem h1,hxe]
     have hbx:Y2 1048576 x:=by rw [← hxe];exact hx.2 _ (List.getElem_mem h1)
     have ho:∀ k,X0 l i k=(Z0 x i).getD k .undef:=fun k=>by unfold X0;rw [he]
     have hf:∀ k,a0b l k i=Z9 x k:=fun k=>by unfold a0b;rw [he]
     have hst:Z5 Y9 (l.take (i+1))=Z5 Y9 (l.take i)+Y9 x:=by rw [b3j _ h1,hxe]
     have hle:=c0u (f:=Y9) l (i+1)
     obtain ⟨m0,hm0⟩:∃ m,k+Z5 Y9 (l.take i)=m:=⟨_,rfl⟩
     have q4:x.ids.length≤1048576:=hbx.2.2.1
     obtain ⟨m1,hm1⟩:∃ m,m0+1=m:=⟨_,rfl⟩
     obtain ⟨m2,hm2⟩:∃ m,m1+1=m:=⟨_,rfl⟩
     obtain ⟨m3,hm3⟩:∃ m,m2+1=m:=⟨_,rfl⟩
     obtain ⟨m4,hm4⟩:∃ m,m3+1=m:=⟨_,rfl⟩
     obtain ⟨m5,hm5⟩:∃ m,m4+1*x.ids.length=m:=⟨_,rfl⟩
     obtain ⟨m6,hm6⟩:∃ m,m5+1=m:=⟨_,rfl⟩
     obtain ⟨m7,hm7⟩:∃ m,m6+1=m:=⟨_,rfl⟩
     have hcx:Y9 x=6+x.ids.length:=rfl
     have hlast:k+Z5 Y9 (l.take (i+1))=m7:=by omega
     have s0:IntKind.i64.wrap ((m0:Int)+1)=(m1:Int):=by rw [wrap_i64 (by omega) (by omega)];omega
     have s1:IntKind.i64.wrap ((m1:Int)+1)=(m2:Int):=by rw [wrap_i64 (by omega) (by omega)];omega
     have s2:IntKind.i64.wrap ((m2:Int)+1)=(m3:Int):=by rw [wrap_i64 (by omega) (by omega)];omega
     have hk2:=a23 m2 (by omega)
     have s3:IntKind.i64.wrap ((m3:Int)+1)=(m4:Int):=by rw [wrap_i64 (by omega) (by omega)];omega
     have hk3:=a23 m3 (by omega)
     have hk4:=a64 x.ids m4 (by omega) q4
     rw [hm5] at hk4
     have s5:IntKind.i64.wrap ((m5:Int)+1)=(m6:Int):=by rw [wrap_i64 (by omega) (by omega)];omega
     have hk5:=a23 m5 (by omega)
     have s6:IntKind.i64.wrap ((m6:Int)+1)=(m7:Int):=by rw [wrap_i64 (by omega) (by omega)];omega
     rw [hm0]
     simp [num,tx,h1,ho,hf,T4,V6,Z0,Z9,s0,s1,s2,s3,s5,s6]
     refine d7 rfl rfl (.inl rfl) hk2 ?_
     simp [num,tx,h1,ho,hf,T4,V6,Z0,Z9,s0,s1,s2,s3,s5,s6]
     refine d7 rfl rfl (.inl rfl) hk3 ?_
     simp [num,tx,h1,ho,hf,T4,V6,Z0,Z9,s0,s1,s2,s3,s5,s6]
     refine rowC (by simp [PV.plain1]) rfl rfl rfl hk4 rfl ?_
     simp [num,tx,h1,ho,hf,T4,V6,Z0,Z9,s0,s1,s2,s3,s5,s6]
     refine d7 rfl rfl (.inl rfl) hk5 ?_
     simp [num,tx,h1,ho,hf,T4,V6,Z0,Z9,s0,s1,s2,s3,s5,s6]
     refine LoopNext.mk (i+1) h1 (by omega) (Le.mkDN _ _ _ ?_ ?_ ?_)
     · simp only [hlast]
       simp [num,s0,s1,s2,s3,s5,s6]
       exact wrap_i64 (by omega) (by omega)
     · intro kp hkp;cases hkp
     · intro k' j hk'
       by_cases h0:k'=4∧j=0
       · obtain ⟨rfl,rfl⟩:=h0
         simp [T4,V6]
         refine .prow _ _ _ _ _ fun j k hj hk=>?_
         by_cases hji:j=i
         · rw [if_neg (show ¬ i+1≤j by omega)];exact .undef _
         · simp [hji]
           by_cases hj2:i≤j
           · rw [if_pos hj2,if_pos (by omega)];exact .refl _
           · rw [if_neg hj2,if_neg (by omega)];exact .undef _
       · rw [if_neg h0]
         by_cases hji:j=i
         · rw [if_neg (show ¬ i+1≤j by omega)];exact .dead _
         · simp [hk',T4,V6,hji,h0]
           by_cases hj2:i≤j
           · rw [if_pos hj2,if_pos (by omega)];exact .refl _
           · rw [if_neg hj2,if_neg (by omega)];exact .refl _
   · have e:i=l.length:=by omega
     subst e
     simp [num,T4,V6]
     refine finM_U ?_
     simp [P7,Y6]
theorem c3q {M:Nat→MObj} (l:List LWire) (h0:M (DN 4 0)=a4a l) (h:∀ k j,k < 16→(a0b l k j).live=true→M (DN k j)=a0b l k j):Res M (.own (DN 4 0)) (.list 7 (l.map O0)):=by
 refine .prow _ _ _ _ (X0 l) _ h0 (by simp) (fun x hx=>?_) fun j k hj hk=>?_
 · obtain ⟨y,_,rfl⟩:=List.mem_map.1 hx
   rfl
 have he:l[j]?=some l[j]:=List.getElem?_eq_getElem hj
 have e1:X0 l j k=(Z0 l[j] j).getD k .undef:=by unfold X0;rw [he]
 have e2:(l.map O0).getD j .nilptr=O0 l[j]:=by simp [List.getD_eq_getElem?_getD,he]
 rw [e1,e2]
 generalize l[j]=x at he ⊢
 have:k=0∨k=1∨k=2∨k=3∨k=4∨k=5∨k=6:=by omega
 rcases this with rfl | rfl | rfl | rfl | rfl | rfl | rfl
 · exact .val _
 · exact .val _
 · exact .val _
 · exact .val _
 · exact .row _ 3 _ _ (by rw [h 10 j (by omega) (by unfold a0b;rw [he];rfl)];unfold a0b;rw [he];rfl)
 · exact .val _
 · exact .val _
end Go.Proofs
end
section
namespace Go.Proofs
open Go.PW Go.KP
attribute [local simp] RV.cells RV.one PV.cells PV.solid PV.one G5 a8 O1 O3 RV.ofCells elems PV.killL
variable [GF]
def bxM (a b c:List RV) (j:Nat):MObj:=if j=0 then .row 3 1 a else if j=1 then .row 3 1 b else .row 9 1 c
theorem c11 (x:LBox) (k:Nat) (h1:x.ids.length≤1048576) (h2:x.times.length≤1048576) (h3:x.bodies.length≤1048576) (hk:k < 1048576):U2 Tryz.prog 29 [.agg [.own 900,.own 901,.own 902],.val (num k)] (Z1 3 (bxM (x.ids.map num) (x.times.map num) (x.bodies.map tx))) (a1t 3)
 (.val (num ((k+x.ids.length+x.times.length+x.bodies.length:Nat):Int))) (Z1 3 (bxM ((mkL Y5 1 x.ids.length k).map num) ((mkL Y5 1 x.times.length (k+x.ids.length)).map num) ((mkL lmk 1 x.bodies.length (k+x.ids.length+x.times.length)).map tx))):=by
 have hin:∀ (O:Nat→MObj) i,(Z1 3 O i).live=true→900≤i∧i < 903:=fun O i hi=>by
  unfold Z1 at hi;split at hi
  · omega
  · cases hi
 have q1:=a64 x.ids k (by omega) h1
 have q2:=a64 x.times (k+x.ids.length) (by omega) h2
 have q3:=b2x x.bodies (k+x.ids.length+x.times.length) (by omega) h3
 rw [Nat.one_mul] at q1 q2 q3
 obtain ⟨a1,e1⟩:∃ l,(mkL Y5 1 x.ids.length k).map num=l:=⟨_,rfl⟩
 obtain ⟨a2,e2⟩:∃ l,(mkL Y5 1 x.times.length (k+x.ids.length)).map num=l:=⟨_,rfl⟩
 obtain ⟨a3,e3⟩:∃ l,(mkL lmk 1 x.bodies.length (k+x.ids.length+x.times.length)).map tx=l:=⟨_,rfl⟩
 rw [e1] at q1 ⊢
 rw [e2] at q2 ⊢
 rw [e3] at q3 ⊢
 obtain ⟨k3,f3⟩:∃ m,k+x.ids.length+x.times.length+x.bodies.length=m:=⟨_,rfl⟩
 obtain ⟨k2,f2⟩:∃ m,k+x.ids.length+x.times.length=m:=⟨_,rfl⟩
 obtain ⟨k1,f1⟩:∃ m,k+x.ids.length=m:=⟨_,rfl⟩
 rw [f3] at q3 ⊢
 rw [f2] at q2 q3
 rw [f1] at q1 q2
 refine a8d mixed ok29 (fun i hi=>?_) (fun i hi=>?_) ?_
 · have:=hin _ i hi
   simp [okId];omega
 · unfold a1t at hi
   simp at hi
   refine ⟨by omega,?_⟩
   unfold Z1
   rw [if_pos (by omega)]
   unfold bxM
   split
   · rfl
   · split<;>rfl
 unfold ir29
 rw [b8]
 simp [num,Z1,bxM]
 refine rowC (by simp [PV.plain1]) rfl rfl rfl q1 rfl ?_
 simp [num,Z1,bxM]
 refine rowC (by simp [PV.plain1]) rfl rfl rfl q2 rfl ?_
 simp [num,Z1,bxM]
 refine rowC (by simp [PV.plain1]) rfl rfl rfl q3 rfl ?_
 simp [num,Z1,bxM]
 refine ⟨_,Le.refl _,fun i=>i,by simp [P7,Y6,num,PV.ren],Named.same (fun j hj=>?_) (fun j hj=>?_)⟩
 · have:=hin _ j hj
   have:j=900∨j=901∨j=902:=by omega
   rcases this with rfl | rfl | rfl<;>simp [Z1,bxM]
 · unfold a1t at hj
   simp at hj
   have:j=900∨j=901∨j=902:=by omega
   rcases this with rfl | rfl | rfl<;>rfl
theorem c1s (n1 n2 n3 k:Nat) (h1:n1≤1048576) (h2:n2≤1048576) (h3:n3≤1048576) (hk:k < 1048576):i7 Tryz.prog 30 [.val (.agg [.list 1 ((mkL Y5 1 n1 k).map num),.list 1 ((mkL Y5 1 n2 (k+n1)).map num),.list 1 ((mkL lmk 1 n3 (k+n1+n2)).map tx)]),.val (num k)] (.ret (.val (num ((k+n1+n2+n3:Nat):Int))) []) []:=by
 have q1:=b1p n1 k (by omega) h1
 have q2:=b1p n2 (k+n1) (by omega) h2
 have q3:=b2y n3 (k+n1+n2) (by omega) h3
 rw [Nat.one_mul] at q1 q2 q3
 obtain ⟨k3,f3⟩:∃ m,k+n1+n2+n3=m:=⟨_,rfl⟩
 obtain ⟨k2,f2⟩:∃ m,k+n1+n2=m:=⟨_,rfl⟩
 obtain ⟨k1,f1⟩:∃ m,k+n1=m:=⟨_,rfl⟩
 rw [f3] at q3 ⊢
 rw [f2] at q2 q3 ⊢
 rw [f1] at q1 q2 ⊢
 have g1:¬ (k1:Int) < 0:=by omega
 have g2:¬ (k2:Int) < 0:=by omega
 have g3:¬ (k3:Int) < 0:=by omega
 refine F9 mixed ok30 rfl (fun _=>rfl) ?_
 unfold ir30
 rw [b8]
 simp [d6,s8,L3,b7,c8,num]
 refine d7 rfl rfl (.inl rfl) q1 ?_
 simp [num,g1]
 refine d7 rfl rfl (.inl rfl) q2 ?_
 simp [num,g2]
 refine d7 rfl rfl (.inl rfl) q3 ?_
 simp [num,g3]
end Go.Proofs
end
section
namespace Go.Proofs
open Go.PW Go.KP
attribute [local simp] RV.cells RV.one PV.cells PV.solid PV.one G5 a8 O1 O3 RV.ofCells elems PV.killL
variable [GH]
attribute [local simp] a4s a9z b6o b6p b6m b6n a2a b1z a62 b78 b2h b2i a5q dK_lo dK_DN dM_lo dM_DN inR K7
def a4n (k i:Nat):Bool:=k == 10 || (k == 4 && i == 0)
theorem a50 (l:List LWire) (k i:Nat):(W2 l k i).onT (TD a4n):=b3h l k i fun k j h=>by subst h;simp [a4n]
theorem b07 (l:List LWire) (k i:Nat) (h:(W2 l k i).live=true):a4n k i=true:=(a8y l k i (S:=fun _=>true) (fun _ _ _=>rfl) h).1
theorem a81 (l:List LWire) (k i:Nat):∀ cs,W2 l k i≠.box cs:=by
 intro cs h
 have hl:(W2 l k i).live=true:=by rw [h];rfl
 exact (a8y l k i (S:=fun _=>true) (fun _ _ _=>rfl) hl).2.2 cs h
theorem a8z (l:List LWire) (k i n:Nat) (hn:n < 1000000):(W2 l k i).kill (fun x=>x == n)=W2 l k i:=b6v l k i _ fun k j h=>by
 have:=a5q (k:=k) (j:=j)
 simp [isD] at this
 simp;omega
theorem b0s (l:List LWire) (M:Nat→MObj) (h:∀ k j,k < 16→a4n k j=true→M (DN k j)=W2 l k j):Res M (.own (DN 4 0)) (.list 7 (l.map O0)):=
 c3q l (by rw [h 4 0 (by omega) rfl];rfl) fun k j hk hl=>by
  rcases a4f l k j with ⟨h',_,_⟩ | e
  · rw [h k j hk (by subst h';rfl)];unfold W2;rw [if_neg (by omega)]
  · rw [e] at hl;cases hl
theorem a8k (l:List LWire) (hs:bdS 1048576 (Y2 1048576) l):i7 Tryz.prog 24 [.val (.list 7 (l.map O0))] (.ret (.val (.list 7 (l.map O0))) []) []:=
 ok_of_mem (b31 l hs) (b0s l _ fun k j hk _=>a2a hk)
theorem BJ_bd {b:LBox} (h:BJ b):c5x 1048576 b:=by
 obtain ⟨⟨h1,h2,_⟩,h3,h4⟩:=h
 exact ⟨by omega,by omega,by omega,fun s hs=>Nat.le_trans (h4 s hs) (by omega)⟩
theorem b1b (ws:List LWire) (hb:bdS 9223372036854775807 (Y2 9223372036854775807) ws) (hst:∀ w∈ws,b50 w):i7 Tryz.prog 5 [.val (.list 7 (ws.map O0))] (.ret (.val (.bool true)) []) []:=by
 refine F9 mixed ok5 rfl (fun _=>rfl) ?_
 unfold ir5
 rw [b8]
 simp [d6,s8,L3,b7,c8,tx,num,a8]
 refine d7 rfl rfl (.inl rfl) (c2l ws 1048576 (by omega) (by omega) hb) ?_
 by_cases hz:cut 1048576 (zS X9 ws) < 0
 · simp [num,hz]
 · obtain ⟨hz1,_⟩:=c2s hz (by omega)
   have hs:bdS 1048576 (Y2 1048576) ws:=bdS_of (fun _ h=>c3a h) (by omega)
   have hcnt:Z5 Y9 ws≤6291456:=by
    have:=c4f Y9 X9 (fun x=>by have:=b9x x;omega) ws
    omega
   have hJ:=c3t ws
   have hbd:=BJ_bd hJ
   have hmk:=b7p ws 1 hs (by omega)
   obtain ⟨mk,hmk0⟩:∃ m,1+Z5 Y9 ws=m:=⟨_,rfl⟩
   rw [hmk0] at hmk
   have hne1:¬ (mk:Int) < 0:=by omega
   have hsp:=b5r ws hst hs.1
   have hip:=b5i ws hs.1
   obtain ⟨⟨B,c0⟩,hR⟩:∃ R,a3r ws=R:=⟨_,rfl⟩
   rw [hR] at hsp hip hJ hbd
   have l1:B.ids.length≤1048576:=hbd.1
   have l2:B.times.length≤1048576:=hbd.2.1
   have l3:B.bodies.length≤1048576:=hbd.2.2.1
   have hm:=c11 B 1 l1 l2 l3 (by omega)
   have hh:=c1s B.ids.length B.times.length B.bodies.length 1 l1 l2 l3 (by omega)
   obtain ⟨m1,hm1⟩:∃ m,1+B.ids.length+B.times.length+B.bodies.length=m:=⟨_,rfl⟩
   rw [hm1] at hm hh
   have hne2:¬ (m1:Int) < 0:=by omega
   have heq:=g_eqBox B hbd
   have hfl1:=a2y (f:=num) (fun _=>rfl) B.ids
   have hfl2:=a2y (f:=num) (fun _=>rfl) B.times
   have hfl3:=a2y (f:=tx) (fun _=>rfl) B.bodies
   unfold V3 at hsp heq
   obtain ⟨w1,hw1⟩:∃ l,B.ids.map num=l:=⟨_,rfl⟩
   obtain ⟨w2,hw2⟩:∃ l,B.times.map num=l:=⟨_,rfl⟩
   obtain ⟨w3,hw3⟩:∃ l,B.bodies.map tx=l:=⟨_,rfl⟩
   obtain ⟨r1,hr1⟩:∃ l,(mkL Y5 1 B.ids.length 1).map num=l:=⟨_,rfl⟩
   obtain ⟨r2,hr2⟩:∃ l,(mkL Y5 1 B.times.length (1+B.ids.length)).map num=l:=⟨_,rfl⟩
   obtain ⟨r3,hr3⟩:∃ l,(mkL lmk 1 B.bodies.length (1+B.ids.length+B.times.length)).map tx=l:=⟨_,rfl⟩
   simp only [] at hsp hip
   rw [hw1,hw2,hw3] at hsp hip heq
   rw [hw1,hw2,hw3,hr1,hr2,hr3] at hm
   rw [hr1,hr2,hr3] at hh
   rw [hw1] at hfl1
   rw [hw2] at hfl2
   rw [hw3] at hfl3
   simp [num,hz,a8]
   refine d7 rfl rfl (.inl rfl) (a8k ws hs) ?_
   simp [a8,num]
   refine S7 rfl rfl (.inl rfl) hsp ?_
   simp [a8,tx,num,PV.kill,PV.killL]
   refine c5l (rs:=[.list 7 (ws.map O0)]) a4n rfl (b31 ws hs) (fun k j hk hl=>⟨b07 ws k j hl,a50 ws k j,a81 ws k j⟩) (a5x rfl) ?_
   simp [a8,tx,num,PV.kill]
   refine callR (rs:=[.list 7 (ws.map O0)]) a4n (W2 ws) hip rfl (fun k j hk hT=>?_) (fun k j hk=>⟨a50 ws k j,a81 ws k j⟩) (fun M hM j hj=>?_) ?_ rfl (by simp [PV.flat,PV.flat.go,RV.flat,num]) ?_ (by omega) (by simp) ?_
   · simp [hk,hT,a8z]
   · have:j=0:=by simp at hj;omega
     subst this
     exact b0s ws M hM
   · intro q hq
     simp only [List.mem_cons,List.not_mem_nil,or_false] at hq
     subst hq
     exact a5x rfl
   · intro q hq x hx
     simp only [List.mem_cons,List.not_mem_nil,or_false] at hq
     rcases hq with rfl | rfl | rfl
     · exact hfl1 x hx
     · exact hfl2 x hx
     · exact hfl3 x hx
   simp [a8,tx,num,PV.shift,PV.shiftL,i8,PV.kill,PV.killL]
   refine d7 rfl rfl (.inr rfl) heq ?_
   simp [a8,tx,num,PV.kill,PV.killL]
   refine d7 rfl rfl (.inl rfl) (a8k ws hs) ?_
   simp [a8,tx,num,PV.kill,PV.killL]
   refine callR (rs:=[.list 7 (ws.map O0),.list 7 (ws.map O0)]) a4n (W2 ws) (c2m ws hs) rfl (fun k j hk hT=>?_) (fun k j hk=>⟨a50 ws k j,a81 ws k j⟩) (fun M hM j hj=>?_) ?_ rfl rfl ?_ (by omega) (by simp) ?_
   · simp [hk,hT,a8z]
   · have:j=0∨j=1:=by simp at hj;omega
     rcases this with rfl | rfl
     · exact b0s ws M hM
     · exact .val _
   · intro q hq
     simp only [List.mem_cons,List.not_mem_nil,or_false] at hq
     rcases hq with rfl | rfl
     · exact a5x rfl
     · exact a1q
   · intro r hr;cases hr
   simp [a8,tx,num,PV.shift,PV.kill,PV.killL,i8]
   refine callU (G:=W2 ws) a4n hmk ?_ (fun k j hk hl=>⟨b07 ws k j hl,?_,a50 ws k j⟩) ?_
   · intro q hq
     simp only [List.mem_cons,List.not_mem_nil,or_false] at hq
     rcases hq with rfl | rfl
     · exact a5x rfl
     · exact a1q
   · have hT:=b07 ws k j hl
     simp [hk,hT,a8z]
   simp [a8,tx,num,PV.kill,PV.killL,a4n,hne1]
   refine d7 rfl rfl (.inr rfl) heq ?_
   simp [a8,tx,num,PV.kill,PV.killL,hne1,hne2]
   refine c5m [30000,30001,30002] (bxM w1 w2 w3) (bxM r1 r2 r3) (bxM w1 w2 w3) (bxM r1 r2 r3) (by simp) (by simp) (ps0:=[.agg [.own 900,.own 901,.own 902],.val (num 1)]) rfl (fun j hj=>?_) (fun j hj=>?_) (fun j hj=>?_) (fun j hj=>?_) (fun j hj _=>?_) (fun j cs hj h=>?_) hm ?_
   · have:j=0∨j=1∨j=2:=by simp at hj;omega
     rcases this with rfl | rfl | rfl<;>simp [bxM]
   · unfold bxM;split<;>(try split)<;>rfl
   · unfold bxM;split<;>(try split)<;>rfl
   · unfold bxM;split<;>(try split)<;>rfl
   · unfold bxM;split<;>(try split)<;>rfl
   · unfold bxM at h;split at h<;>(try split at h)<;>cases h
   simp [a8,tx,num,PV.kill,PV.killL,bxM,b02,b1w,PV.ren,hne2]
   refine d7 rfl rfl (.inr rfl) hh ?_
   simp [a8,tx,num,PV.kill,PV.killL,b1w,hne2]
   refine d7 rfl rfl (.inl rfl) (a8k ws hs) ?_
   simp [a8,tx,num,PV.kill,PV.killL,b1w]
   refine a2k rfl rfl rfl (.inl rfl) hip ?_
   simp [a8,tx,num,PV.kill,PV.killL,b1w,PV.shift,PV.shiftL,i8]
   refine d7 rfl rfl (.inr rfl) heq ?_
   simp [a8,tx,num,PV.kill,PV.killL,b1w]
   refine d7 rfl rfl (.inr rfl) hh ?_
   simp [a8,tx,num,PV.kill,PV.killL,b1w,hne2]
end Go.Proofs
end
