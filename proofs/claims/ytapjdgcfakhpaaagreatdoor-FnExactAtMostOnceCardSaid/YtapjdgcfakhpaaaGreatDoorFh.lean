/- Fh: merged out of KXt, KXu. -/
import Derived.Test.YtapjdgcfakhpaaaGreatDoorBa
import Derived.Test.YtapjdgcfakhpaaaGreatDoorEh
import Derived.Test.YtapjdgcfakhpaaaGreatDoorFf
import Derived.Test.YtapjdgcfakhpaaaGreatDoorFb
set_option linter.unusedSectionVars false
set_option linter.unusedSimpArgs false
set_option linter.unusedVariables false
set_option maxRecDepth 100000
section
namespace Go.Proofs
open Go.PW Go.KP
attribute [local simp] RV.cells RV.one PV.cells PV.solid PV.one x6 j2 J4 I7 RV.ofCells elems PV.killL
variable [GH]
def amo1 (ws:List LWire) (id:Int):Bool:=decide (X4 false id ws≤X4 true id ws+1)
def a99 (ws:List LWire):Nat→Bool
 | 0=>true
 | n+1=>a99 ws n && amo1 ws ((n+1:Nat):Int)
theorem b4t (ws:List LWire):∀ (m n:Nat),n≤m→a99 ws n=false→a99 ws m=false
 | 0,n,h,hf=>by obtain rfl:n=0:=by omega
                exact hf
 | m+1,n,h,hf=>by
  by_cases e:n=m+1
  · rw [← e];exact hf
  · unfold a99;rw [b4t ws m n (by omega) hf];rfl
def b1f (p:LPipe):Bool:=decide (acC p=0) && a99 p.wires (p.next - 1).toNat
theorem b2k (lost:Bool) (id:Int) (ws:List LWire):X4 lost id ws≤ws.length:=List.countP_le_length
theorem b6o (p:LPipe) (hb:a0y 1048576 p):f8 Tryz.prog 10 [.val (C5 p)] (.ret (.tup [.val (.bool (b1f p)),.val (num (acC p))]) []) []:=by
 refine i7 mixed ok10 rfl (fun _=>rfl) ?_
 unfold ir10
 rw [b7]
 have hwl:p.wires.length≤1048576:=hb.2.2.2.1
 simp [i6,j3,j9,b8,f6,C5,tx,num,j2]
 refine b6 rfl rfl (.inl rfl) (c7p p hb) ?_
 by_cases hac:acC p=0
 rotate_left
 · have hR:b1f p=false:=by unfold b1f;simp [hac]
   simp [num,hac,hR]
 obtain ⟨hok,hn⟩:=b9e hac
 have hs:=c5r p hok
 have hR:b1f p=a99 p.wires (p.next - 1).toNat:=by unfold b1f;rw [hac];simp
 obtain ⟨N,hN⟩:∃ N,(p.next - 1).toNat=N:=⟨_,rfl⟩
 rw [hN] at hR
 simp [num,hac]
 refine l3 (X:=Nat) (fun n=>⟨x5 [(1,.ptr 1 0),(2,.val (.bool false)),(3,.val (num 0)),(5,.val (num ((n+1:Nat):Int)))],x4 [(1,U9 p)]⟩) (fun n=>n≤N∧a99 p.wires n=true) (fun n=>N - n) 0 (Le.mk _ _ ?_ ?_) ⟨Nat.zero_le _,rfl⟩ ?_
 · simp [num,PV.kill]
 · simp [U9,tx,num,MObj.kill,PV.kill]
 · rintro n ⟨hi,hal⟩
   simp [num,U9,tx]
   refine j1 (fun h1=>?_) (fun h1=>?_)
   · have hF:=b3d p ((n+1:Nat):Int) false hb hs
     have hT:=b3d p ((n+1:Nat):Int) true hb hs
     have hst:a99 p.wires (n+1)=(a99 p.wires n && amo1 p.wires ((n+1:Nat):Int)):=rfl
     have e1:((n+1:Nat):Int)=(n:Int)+1:=by omega
     rw [e1] at hF hT hst
     rw [hal,Bool.true_and] at hst
     have l1:=b2k false ((n:Int)+1) p.wires
     have l2:=b2k true ((n:Int)+1) p.wires
     have wc:IntKind.i64.wrap ((X4 true ((n:Int)+1) p.wires:Int)+1)=(X4 true ((n:Int)+1) p.wires:Int)+1:=wrap_i64 (by omega) (by omega)
     have w1:IntKind.i64.wrap ((n:Int)+1+1)=((n+1+1:Nat):Int):=by rw [wrap_i64 (by omega) (by omega)];omega
     simp [num,j2]
     refine p7 rfl rfl (.inl rfl) hF ?_
     simp [num,j2]
     refine b6 rfl rfl (.inl rfl) hT ?_
     simp [num,j2,wc]
     unfold amo1 at hst
     refine j1 (fun h2=>?_) (fun h2=>?_)
     · rw [decide_eq_false (by omega)] at hst
       have:=b4t p.wires N (n+1) (by omega) hst
       simp [num,hR,this,hac]
     · rw [decide_eq_true (by omega)] at hst
       simp [num]
       refine LoopNext.mk (n+1) ⟨by omega,hst⟩ (by omega) (Le.mk _ _ ?_ ?_)
       · simp [num,w1]
       · simp [num,U9,tx]
   · have e:n=N:=by omega
     subst e
     simp [num,hR,hal,hac]
def MC (m:MKey→Option (PV×Nat)) (c:Int→Nat):Prop:=(∀ n,(m (.i n)=none∧c n=0)∨(∃ b,m (.i n)=some (.val (num (c n)),b)∧0 < c n))∧∀ t,m (.s t)=none
theorem MC.put {m:MKey→Option (PV×Nat)} {c:Int→Nat} (h:MC m c) (k:Int) (b:Nat):MC (a2h m (.i k) (.val (num (c k+1:Nat))) b) (fun n=>c n+if n=k then 1 else 0):=by
 refine ⟨fun n=>?_,fun t=>?_⟩
 · by_cases hk:n=k
   · subst hk
     exact .inr ⟨b,by simp [a2h],by simp⟩
   · have:¬ MKey.i n=MKey.i k:=fun e=>hk (by cases e;rfl)
     have e:a2h m (.i k) (.val (num (c k+1:Nat))) b (.i n)=m (.i n):=by unfold a2h;rw [if_neg this]
     simp only [e,if_neg hk,Nat.add_zero]
     exact h.1 n
 · have:¬ MKey.s t=MKey.i k:=fun e=>by cases e
   unfold a2h;rw [if_neg this];exact h.2 t
theorem MC.same {m:MKey→Option (PV×Nat)} {c c':Int→Nat} (h:MC m c) (e:∀ n,c n=c' n):MC m c':=⟨fun n=>by rw [← e n];exact h.1 n,h.2⟩
theorem MC.kill {m:MKey→Option (PV×Nat)} {c:Int→Nat} (h:MC m c) (f:Nat→Bool):(fun k=>(m k).map fun p=>(p.1.kill f,p.2))=m:=by
 funext k
 cases k with
 | s t=>rw [h.2 t];rfl
 | i n=>
  rcases h.1 n with ⟨e,_⟩ | ⟨b,e,_⟩
  · rw [e];rfl
  · rw [e];rfl
def b62 (w:LWire):MObj:=.box [.val (num w.at_),.val (num w.status),.val (tx w.group),.val (tx w.url),.val (.list 1 (w.ids.map num)),.val (tx w.body),.val (.bool w.lost)]
def a2a (w:LWire):Bool:=a5w w && !w.lost
def glw (ws:List LWire):List Int:=ws.flatMap fun w=>if a2a w then w.ids else []
theorem c64 (ws:List LWire) (i:Nat) (h:i < ws.length):glw (ws.take (i+1))=glw (ws.take i)++(if a2a ws[i] then ws[i].ids else []):=by
 unfold glw
 rw [List.take_add_one,List.getElem?_eq_getElem h,List.flatMap_append];simp
theorem b4n (z:Int):∀ ws:List LWire,(∀ w∈ws,w.ids.Nodup)→(glw ws).count z+X4 true z ws=X4 false z ws
 | [],_=>rfl
 | w :: ws,h=>by
  have ih:=b4n z ws fun w hw=>h w (List.mem_cons_of_mem _ hw)
  have hn:=h w (List.mem_cons_self ..)
  have e:glw (w :: ws)=(if a2a w then w.ids else [])++glw ws:=by simp [glw]
  have cons:∀ lost,X4 lost z (w :: ws)=X4 lost z ws+if decide (z∈w.ids) && a5w w && (w.lost || !lost) then 1 else 0:=fun lost=>by unfold X4;rw [List.countP_cons]
  rw [e,List.count_append,cons,cons]
  by_cases hz:z∈w.ids
  · have hc:w.ids.count z=1:=by rw [hn.count,if_pos hz]
    unfold a2a
    cases hg:a5w w<;>cases hl:w.lost<;>simp [hz,hg,hl,hc]<;>omega
  · have hc:w.ids.count z=0:=List.count_eq_zero.2 hz
    unfold a2a
    cases hg:a5w w<;>cases hl:w.lost<;>simp [hz,hg,hl,hc]<;>omega
theorem b9d (ws:List LWire) (h:∀ w∈ws,w.ids.Nodup):∀ n:Nat,a99 ws n=true↔∀ j:Nat,1≤j→j≤n→(glw ws).count (j:Int)≤1
 | 0=>by simp [a99];omega
 | n+1=>by
  have ih:=b9d ws h n
  have hc:=b4n ((n+1:Nat):Int) ws h
  unfold a99
  rw [Bool.and_eq_true,ih]
  unfold amo1
  rw [decide_eq_true_eq]
  constructor
  · rintro ⟨h1,h2⟩ j hj1 hj2
    by_cases e:j=n+1
    · subst e;omega
    · exact h1 j hj1 (by omega)
  · intro h1
    have:=h1 (n+1) (by omega) (by omega)
    exact ⟨fun j a b=>h1 j a (by omega),by omega⟩
theorem glw_mem {z:Int} {ws:List LWire} (h:z∈glw ws):∃ w∈ws,z∈w.ids:=by
 unfold glw at h
 obtain ⟨w,hw,hz⟩:=List.mem_flatMap.1 h
 refine ⟨w,hw,?_⟩
 split at hz
 · exact hz
 · cases hz
theorem glw_len (ws:List LWire) (h:∀ w∈ws,w.ids.length≤1048576):(glw ws).length≤1048576*ws.length:=by
 induction ws with
 | nil=>simp [glw]
 | cons w ws ih=>
  have h1:=ih fun w hw=>h w (List.mem_cons_of_mem _ hw)
  have h2:=h w (List.mem_cons_self ..)
  have e:glw (w :: ws)=(if a2a w then w.ids else [])++glw ws:=by simp [glw]
  rw [e,List.length_append,List.length_cons]
  split
  · omega
  · simp;omega
theorem ids_up {next:Int} {l:List Int} (h:Z9 l.length (a4w next l)=true):(∀ r∈l,1≤r∧r≤next - 1)∧l.Nodup:=by
 have hat:∀ i (hi:i < l.length),a4w next l i=true:=fun i hi=>by unfold Z9 at h;exact List.all_eq_true.1 h i (List.mem_range.2 hi)
 have step:∀ j (hj:j+1 < l.length),l[j] < l[j+1]:=fun j hj=>by
  have:=hat (j+1) hj
  unfold a4w at this
  rw [List.getElem?_eq_getElem hj] at this
  simp only [List.getElem?_eq_getElem (show j < l.length by omega),Bool.and_eq_true,decide_eq_true_eq] at this
  exact this.2
 have up:∀ j (hj:j < l.length) i (hi:i < j),l[i] < l[j]:=by
  intro j
  induction j with
  | zero=>intro _ i hi;omega
  | succ j ih=>
   intro hj i hi
   have h1:=step j hj
   by_cases e:i=j
   · subst e;exact h1
   · have:=ih (by omega) i (by omega);omega
 refine ⟨fun r hr=>?_,?_⟩
 · obtain ⟨i,hi,rfl⟩:=List.mem_iff_getElem.1 hr
   have:=hat i hi
   unfold a4w at this
   rw [List.getElem?_eq_getElem hi] at this
   simp only [Bool.and_eq_true,decide_eq_true_eq] at this
   exact this.1
 · rw [List.nodup_iff_pairwise_ne,List.pairwise_iff_getElem]
   intro i j hi hj hij
   have:=up j hj i hij
   omega
theorem c23 {p:LPipe} (h:J2 p=true):∀ w∈p.wires,(∀ r∈w.ids,1≤r∧r≤p.next - 1)∧w.ids.Nodup:=fun w hw=>by
 unfold J2 at h
 simp only [Bool.and_eq_true] at h
 have:=List.all_eq_true.1 h.2.2 w hw
 unfold W3 at this
 simp only [Bool.and_eq_true] at this
 exact ids_up this.2
theorem b6b (p:LPipe) (hb:a0y 1048576 p):f8 Tryz.prog 12 [.val (C5 p)] (.ret (.tup [.val (.bool (b1f p)),.val (num (acC p))]) []) []:=by
 refine c42 mixed ok12 rfl (fun _=>rfl) ?_
 unfold ir12
 rw [b6h]
 have hwl:p.wires.length≤1048576:=hb.2.2.2.1
 simp [i6,j3,j9,b8,f6,C5,tx,num,j2]
 refine b6 rfl rfl (.inl rfl) (c4a p hb) ?_
 by_cases hac:acC p=0
 rotate_left
 · have hR:b1f p=false:=by unfold b1f;simp [hac]
   simp [num,hac,hR]
 obtain ⟨hok,hn⟩:=b9e hac
 have hwi:=c23 hok
 have hiff:=b9d p.wires (fun w hw=>(hwi w hw).2) (p.next - 1).toNat
 have hR:b1f p=a99 p.wires (p.next - 1).toNat:=by unfold b1f;rw [hac];simp
 have hbw:∀ w∈p.wires,w.ids.length≤1048576:=fun w hw=>(hb.2.2.2.2 w hw).2.2.1
 simp [num,hac]
 refine l3 (X:=Nat×Nat×(MKey→Option (PV×Nat))) (fun x=>⟨x5 [(1,.ptr 1 0),(5,.own 17),(19,.val (.list 7 (p.wires.map p8))),(20,.val (num p.wires.length)),(21,.val (num x.1))],x4 [(1,U9 p),(17,.map false x.2.1 x.2.2)]⟩)
  (fun x=>x.1≤p.wires.length∧MC x.2.2 (fun n=>(glw (p.wires.take x.1)).count n)) (fun x=>p.wires.length - x.1) (0,0,fun _=>none) (Le.mk _ _ ?_ ?_) ?_ ?_
 · simp [num,PV.kill]
 · simp [U9,tx,num,MObj.kill,PV.kill]
 · exact ⟨Nat.zero_le _,fun n=>.inl ⟨rfl,by simp [glw]⟩,fun t=>rfl⟩
 · rintro ⟨k,clk,m⟩ ⟨hk,hm⟩
   simp only at hk hm
   simp [num]
   refine j1 (fun h1=>?_) (fun h1=>?_)
   · obtain ⟨w,hw⟩:∃ w,p.wires[k]=w:=⟨_,rfl⟩
     have hil:=hbw w (by rw [← hw];exact List.getElem_mem h1)
     have hst:=c64 p.wires k h1
     rw [hw] at hst
     have hlen:=glw_len (p.wires.take k) (fun w hw=>hbw w (List.mem_of_mem_take hw))
     rw [List.length_take] at hlen
     have wk:IntKind.i64.wrap ((k:Int)+1)=((k+1:Nat):Int):=by rw [wrap_i64 (by omega) (by omega)];omega
     have hkl:=hm.kill (fun x=>x == 7)
     obtain ⟨g,hg⟩:∃ g,glw (p.wires.take k)=g:=⟨_,rfl⟩
     rw [hg] at hm hst hlen
     simp [num,h1,hw,p8,tx,PV.kill,MObj.kill,hkl]
     refine l3 (X:=Nat×Nat×(MKey→Option (PV×Nat))) (fun x=>⟨x5 [(1,.ptr 1 0),(5,.own 17),(7,.ptr 7 0),(19,.val (.list 7 (p.wires.map p8))),(20,.val (num p.wires.length)),(21,.val (num k)),(26,.val (.list 1 (w.ids.map num))),(27,.val (num w.ids.length)),(28,.val (num x.1))],x4 [(1,U9 p),(7,b62 w),(17,.map false x.2.1 x.2.2)]⟩)
      (fun x=>x.1≤w.ids.length∧MC x.2.2 (fun n=>(g++if a2a w then w.ids.take x.1 else []).count n)) (fun x=>w.ids.length - x.1) (0,clk,m) (Le.mk _ _ ?_ ?_) ?_ ?_
     · simp [num,PV.kill]
     · simp [U9,b62,tx,num,MObj.kill,PV.kill,hkl]
     · exact ⟨Nat.zero_le _,hm.same fun n=>by simp⟩
     · rintro ⟨j,clk,m⟩ ⟨hj,hm⟩
       simp only at hj hm
       simp [num]
       refine j1 (fun h2=>?_) (fun h2=>?_)
       · obtain ⟨id,hid⟩:∃ id,w.ids[j]=id:=⟨_,rfl⟩
         have wi:IntKind.i64.wrap ((j:Int)+1)=((j+1:Nat):Int):=by rw [wrap_i64 (by omega) (by omega)];omega
         have htk:w.ids.take (j+1)=w.ids.take j++[id]:=by rw [List.take_add_one,List.getElem?_eq_getElem h2,hid];rfl
         simp [num,tx,h2,hid,b62,j2]
         refine b6 rfl rfl (.inl rfl) (b58 w) ?_
         have hskip:a2a w=false→MC m (fun n=>(g++if a2a w then w.ids.take (j+1) else []).count n):=fun hw=>hm.same fun n=>by rw [hw];rfl
         have hput:a2a w=true→∀ b,MC (a2h m (.i id) (.val (num ((g++if a2a w then w.ids.take j else []).count id+1:Nat))) b) (fun n=>(g++if a2a w then w.ids.take (j+1) else []).count n):=fun hw b=>(hm.put id b).same fun n=>by
          rw [hw,if_pos rfl,if_pos rfl,htk]
          simp only [List.count_append,List.count_singleton]
          by_cases e:n=id
          · subst e;simp [Nat.add_assoc]
          · have e':¬ id=n:=fun h=>e h.symm
            simp [e,e']
         have hcb:(g++if a2a w then w.ids.take j else []).count id≤2199023255552:=by
          refine Nat.le_trans List.count_le_length ?_
          rw [List.length_append]
          split
          · rw [List.length_take];omega
          · simp;omega
         cases hgd:a5w w with
         | false=>
          have hw0:a2a w=false:=by unfold a2a;rw [hgd];rfl
          simp [num,tx]
          refine LoopNext.mk (j+1,clk,m) ⟨h2,hskip hw0⟩ (by simp only;omega) (Le.mk _ _ ?_ ?_)
          · simp [num,wi]
          · simp [b62,U9,num,tx]
         | true=>
          cases hlo:w.lost with
          | true=>
           have hw0:a2a w=false:=by unfold a2a;rw [hgd,hlo];rfl
           simp [num,tx,hlo]
           refine LoopNext.mk (j+1,clk,m) ⟨h2,hskip hw0⟩ (by simp only;omega) (Le.mk _ _ ?_ ?_)
           · simp [num,wi]
           · simp [b62,U9,num,tx,hlo]
          | false=>
           have hw1:a2a w=true:=by unfold a2a;rw [hgd,hlo];rfl
           obtain ⟨c,hc⟩:∃ c,(g++if a2a w then w.ids.take j else []).count id=c:=⟨_,rfl⟩
           have hp:=hput hw1
           rw [hc] at hp hcb
           have hci:=hm.1 id
           simp only [hc] at hci
           have wc:IntKind.i64.wrap ((c:Int)+1)=((c+1:Nat):Int):=by rw [wrap_i64 (by omega) (by omega)];omega
           rcases hci with ⟨hnone,h0⟩ | ⟨b,hsome,_⟩
           · subst h0
             have w0:IntKind.i64.wrap 1=1:=by rw [wrap_i64 (by omega) (by omega)]
             simp [num,tx,hlo,hnone,w0]
             refine LoopNext.mk (j+1,clk+1,a2h m (.i id) (.val (num 1)) clk) ⟨h2,hp clk⟩ (by simp only;omega) (Le.mk _ _ ?_ ?_)
             · simp [num,wi]
             · simp [b62,U9,num,tx,hlo]
           · simp [num,tx,hlo,hsome,wc]
             refine LoopNext.mk (j+1,clk,a2h m (.i id) (.val (num (c+1:Nat))) b) ⟨h2,hp b⟩ (by simp only;omega) (Le.mk _ _ ?_ ?_)
             · simp [num,wi]
             · simp [b62,U9,num,tx,hlo]
       · have e:j=w.ids.length:=by omega
         subst e
         rw [List.take_length] at hm
         simp [num]
         refine LoopNext.mk (k+1,clk,m) ⟨h1,hm.same fun n=>by rw [hst]⟩ (by simp only;omega) (Le.mk _ _ ?_ ?_)
         · simp [num,wk]
         · simp [b62,U9,num,tx]
   · have e:k=p.wires.length:=by omega
     subst e
     rw [List.take_length] at hm
     simp [num]
     refine EPX_rng 17 clk m (by simp) (by simp) (fun k p b hk=>?_) (fun k z b hk hz=>?_) (fun hall=>?_)
     · cases k with
       | s t=>rw [hm.2 t] at hk;cases hk
       | i n=>
        rcases hm.1 n with ⟨e,_⟩ | ⟨b',e,_⟩
        · rw [e] at hk;cases hk
        · rw [e] at hk;cases hk;exact ⟨_,rfl⟩
     · have C2:b1f p=false:=by
        cases k with
        | s t=>rw [hm.2 t] at hk;cases hk
        | i n=>
         rcases hm.1 n with ⟨e,_⟩ | ⟨b',e,h0⟩
         · rw [e] at hk;cases hk
         · rw [e] at hk
           simp only [Option.some.injEq,Prod.mk.injEq,PV.val.injEq,num,RV.int.injEq,true_and] at hk
           obtain ⟨w,hw,hnw⟩:=glw_mem (List.count_pos_iff.1 h0)
           have hr:=(hwi w hw).1 n hnw
           rw [hR,Bool.eq_false_iff]
           intro ht
           have:=hiff.1 ht n.toNat (by omega) (by omega)
           have e2:((n.toNat:Nat):Int)=n:=by omega
           rw [e2] at this
           have hz':(1:Int) < z:=hz
           omega
       simp [num,C2,hac,RngN.out,RngN.sl]
     · have hgood:b1f p=true:=by
        rw [hR]
        refine hiff.2 fun j hj1 hj2=>?_
        rcases hm.1 (j:Int) with ⟨_,h0⟩ | ⟨b',e,h0⟩
        · have h0:(glw p.wires).count (j:Int)=0:=h0
          omega
        · have h3:¬ (1:Int) < (((glw p.wires).count (j:Int):Nat):Int):=hall _ _ _ e
          omega
       simp [num,hgood,hac,RngN.out,RngN.sl]
end Go.Proofs
end
section
namespace Go.Proofs
open Go.PW Go.KP
attribute [local simp] RV.cells RV.one PV.cells PV.solid PV.one x6 j2 J4 I7 RV.ofCells elems PV.killL
variable [GH]
theorem b2l (p:LPipe) (hb:a0y 9223372036854775807 p):f8 Tryz.prog 3 [.val (C5 p)] (.ret (.val (.bool true)) []) []:=by
 refine i7 mixed ok3 rfl (fun _=>rfl) ?_
 unfold ir3
 rw [b7]
 simp [i6,j3,j9,b8,f6,C5,tx,num,j2]
 refine b6 rfl rfl (.inl rfl) (c7b p 1048576 (by omega) (by omega) hb) ?_
 by_cases hz:cut 1048576 (b6u p) < 0
 · simp [num,hz]
 · obtain ⟨hz1,_⟩:=c40 hz (by omega)
   have hs:a0y 1048576 p:=c5i (by omega)
   simp [num,hz,j2]
   refine b6 rfl rfl (.inl rfl) (b2x p hs) ?_
   simp [j2,num]
   refine X6 rfl rfl (.inl rfl) (b6o p hs) ?_
   simp [j2,C5,tx,num]
   refine b6 rfl rfl (.inl rfl) (b2x p hs) ?_
   simp [j2,C5,tx,num]
   refine X6 rfl rfl (.inl rfl) (b6b p hs) ?_
   simp [j2,C5,tx,num]
   refine p7 rfl rfl (.inl rfl) (b2x p hs) ?_
   simp [j2,C5,tx,num]
   refine b6 rfl rfl (.inl rfl) (c7g p hs) ?_
   simp
end Go.Proofs
end
