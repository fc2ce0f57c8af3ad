/- Fg: merged out of KXk, KXl, KXn, KXo, KXp, KXq, KXr. -/
import Derived.Test.YtgdapgcjmfeocaaGreatDoorAc
import Derived.Test.YtgdapgcjmfeocaaGreatDoorFd
import Derived.Test.YtgdapgcjmfeocaaGreatDoorEg
import Derived.Test.YtgdapgcjmfeocaaGreatDoorCc
import Derived.Test.YtgdapgcjmfeocaaGreatDoorBa
import Derived.Test.YtgdapgcjmfeocaaGreatDoorShelf
import Derived.Test.YtgdapgcjmfeocaaGreatDoorPWab
import Derived.Test.YtgdapgcjmfeocaaGreatDoorFc
import Derived.Test.YtgdapgcjmfeocaaGreatDoorCa
import Derived.Test.YtgdapgcjmfeocaaGreatDoorFf
import Derived.Test.YtgdapgcjmfeocaaGreatDoorEp
import Derived.Test.YtgdapgcjmfeocaaGreatDoorFb
set_option linter.unusedSectionVars false
set_option linter.unusedSimpArgs false
set_option linter.unusedVariables false
set_option maxRecDepth 100000
section
namespace Go.Proofs
open Go.PW Go.KP
attribute [local simp] RV.cells RV.one PV.cells PV.solid PV.one t8 f9 H0 A5 RV.ofCells elems PV.killL
variable [GH]
theorem c8k (l:List LReport) (hl:l.length≤1048576):d8 Tryz.prog 100 [.val (.list 4 (l.map j5))] (.ret (.val (.list 1 ((a0b l).map num))) []) []:=by
 refine f5 mixed ok100 rfl (fun _=>rfl) ?_
 unfold ir100
 rw [b7]
 simp [d9,i6,j6,b8,d7,num]
 refine j7 (X:=Nat) (fun i=>⟨l8 [(0,.val (.list 4 (l.map j5))),(3,.own 5),(4,.val (num i))],l9 [(5,.row 3 1 ((a0b (l.take i)).map num))]⟩) (fun i=>i≤l.length) (fun i=>l.length - i) 0 (Le.mk _ _ ?_ ?_) (Nat.zero_le _) ?_
 · simp [num,PV.kill]
 · simp [a0b]
 · intro i hi
   simp [num]
   refine f6 (fun h1=>?_) (fun h1=>?_)
   · obtain ⟨r,hr⟩:∃ r,l[i]=r:=⟨_,rfl⟩
     have hst:a0b (l.take (i+1))=a0b (l.take i)++[r.id]:=by unfold a0b;rw [List.take_add_one,List.getElem?_eq_getElem h1,List.map_append,hr];rfl
     have hln:(a0b (l.take i)).length=i:=by unfold a0b;simp;omega
     simp [num,h1,hr,j5]
     refine ⟨by omega,by omega,?_⟩
     refine LoopNext.mk (i+1) h1 (by omega) (Le.mk _ _ ?_ ?_)
     · simp [num];exact wrap_i64 (by omega) (by omega)
     · simp [hst,num]
   · have e:i=l.length:=by omega
     subst e
     simp [num,V2,PV.pl]
def nSt (p:LPipe) (k:Nat) (o:List Int):St:=⟨l8 [(1,.ptr 1 0),(3,.val (.list 1 (o.map num))),(4,.val (num k))],l9 [(1,M4 p)]⟩
def nSt2 (p:LPipe) (k:Nat) (o ids:List Int) (i:Nat):St:=⟨l8 [(1,.ptr 1 0),(3,.val (.list 1 (o.map num))),(4,.val (num k)),(5,.val (.list 1 (ids.map num))),(6,.val (num i))],l9 [(1,M4 p)]⟩
def nSt3 (p:LPipe) (k:Nat) (o ids:List Int) (i n:Nat):St:=⟨l8 [(1,.ptr 1 0),(3,.val (.list 1 (o.map num))),(4,.val (num k)),(5,.val (.list 1 (ids.map num))),(6,.val (num i)),(7,.val (num n))],l9 [(1,M4 p)]⟩
theorem c8h (p:LPipe) (hb:V6 1048576 p) (hq:∀ c∈p.channels,c.queue.items.length≤5) (hc:p.channels.length≤5):d8 Tryz.prog 64 [.val (u0 p)] (.ret (.val (.list 1 ((a5h p.channels).map num))) []) []:=by
 refine f5 mixed ok64 rfl (fun _=>rfl) ?_
 unfold ir64
 rw [b7]
 have hlen:∀ k,k≤p.channels.length→(a5h (p.channels.take k)).length≤5*k:=by
  intro k
  induction k with
  | zero=>intro _;simp [a5h]
  | succ k ih=>
   intro h
   have:=ih (by omega)
   rw [b4t _ _ (by omega),(a5d _ _).length_eq,List.length_append]
   have h2:=hq p.channels[k] (List.getElem_mem (by omega))
   unfold a0b
   rw [List.length_map]
   omega
 simp [d9,i6,j6,b8,d7,u0,tx,num]
 refine j7 (X:=Nat) (fun k=>nSt p k (a5h (p.channels.take k))) (fun k=>k≤p.channels.length) (fun k=>p.channels.length - k) 0 (((Le.freeze _ (fun _=>true)).trans (Le.plain _)).trans (Le.mk _ _ ?_ ?_)) (Nat.zero_le _) ?_
 · simp [St.freeze,PV.frz,PV.pl,V2,num,PV.kill,a5h]
 · simp [St.freeze,MObj.pl,PV.frz,PV.frzL,PV.plL,PV.pl,V2,M4,tx,num,MObj.kill,PV.kill]
 · intro k hk
   simp [num,M4,tx,nSt]
   refine f6 (fun h1=>?_) (fun h1=>?_)
   · obtain ⟨c,hce⟩:∃ c,p.channels[k]=c:=⟨_,rfl⟩
     have hbc:Q9 1048576 c:=by rw [← hce];exact hb.1.2 _ (List.getElem_mem h1)
     have hst:=b4t p.channels k h1
     have hcq:c.queue.items.length≤5:=by rw [← hce];exact hq _ (List.getElem_mem h1)
     have hl0:=hlen k hk
     rw [hce] at hst
     simp [num,h1,hce,i8,tx]
     refine b6 rfl rfl (.inl rfl) (c8k c.queue.items (by omega)) ?_
     obtain ⟨ids,hids⟩:∃ l,a0b c.queue.items=l:=⟨_,rfl⟩
     have hil:ids.length≤5:=by rw [← hids];unfold a0b;simpa using hcq
     rw [hids] at hst ⊢
     obtain ⟨o0,ho0⟩:∃ l,a5h (p.channels.take k)=l:=⟨_,rfl⟩
     rw [ho0] at hst hl0 ⊢
     have hfl:∀ i,i≤ids.length→((ids.take i).foldl a5e o0).length=o0.length+i:=fun i hi=>by
      rw [(a5d _ _).length_eq,List.length_append,List.length_take];omega
     simp [num]
     refine j7 (X:=Nat) (fun i=>nSt2 p k ((ids.take i).foldl a5e o0) ids i) (fun i=>i≤ids.length) (fun i=>ids.length - i) 0 (Le.mk _ _ ?_ ?_) (Nat.zero_le _) ?_
     · simp [num]
     · simp [M4,tx,num]
     · intro i hi
       have hfi:=hfl i hi
       have hsti:i < ids.length→((ids.take (i+1)).foldl a5e o0)=a5e ((ids.take i).foldl a5e o0) (ids.getD i 0):=fun h=>by
        rw [List.take_add_one,List.getElem?_eq_getElem h,List.foldl_append]
        simp [List.getD_eq_getElem?_getD,List.getElem?_eq_getElem h]
       obtain ⟨o,hoe⟩:∃ l,(ids.take i).foldl a5e o0=l:=⟨_,rfl⟩
       rw [hoe] at hfi hsti ⊢
       simp [num,nSt2]
       refine f6 (fun h2=>?_) (fun h2=>?_)
       · simp [num]
         obtain ⟨x,hx⟩:∃ x,ids.getD i 0=x:=⟨_,rfl⟩
         have hx':ids[i]=x:=by rw [← hx];simp [List.getD_eq_getElem?_getD,List.getElem?_eq_getElem h2]
         have hsti:=hsti h2
         rw [hx] at hsti
         refine j7 (X:=Nat) (fun n=>nSt3 p k o ids i n) (fun n=>n≤o.length∧a5f o x n=a5f o x o.length) (fun n=>n) o.length (Le.mk _ _ ?_ ?_) ⟨Nat.le_refl _,rfl⟩ ?_
         · simp [num]
         · simp [M4,tx,num]
         · rintro n ⟨hn,hpos⟩
           by_cases hn0:n=0
           · subst hn0
             have hp0:a5f o x o.length=0:=by rw [← hpos];rfl
             simp [num,nSt3,h2,hx']
             refine ⟨?_,by omega,by omega,?_⟩
             · intro y hy u hu
               obtain ⟨z,_,rfl⟩:=List.mem_map.1 (List.mem_of_mem_take hy)
               simp [num] at hu
               subst hu;rfl
             refine LoopNext.mk (i+1) h2 (by omega) (((Le.freeze _ (fun _=>true)).trans (Le.plain _)).trans (Le.mk _ _ ?_ ?_))
             · simp [num,St.freeze,PV.frz,PV.pl,V2,hsti,a5e,hp0,PV.kill]
               exact ⟨by rw [← List.length_map (f:=num),List.take_length],wrap_i64 (by omega) (by omega)⟩
             · simp [M4,tx,num,St.freeze,MObj.pl,PV.frz,PV.frzL,PV.plL,PV.pl,V2,MObj.kill,PV.kill]
           · obtain ⟨m,rfl⟩:∃ m,n=m+1:=⟨n - 1,by omega⟩
             have hm:m < o.length:=by omega
             have w1:IntKind.i64.wrap (((m+1:Nat):Int) - 1)=(m:Int):=by rw [wrap_i64 (by omega) (by omega)];omega
             have w2:IntKind.i64.wrap ((m:Int)+1 - 1)=(m:Int):=by rw [wrap_i64 (by omega) (by omega)];omega
             have hpos':(0:Int) < (m:Int)+1:=by omega
             have hom:o[m]=o.getD m 0:=by simp [List.getD_eq_getElem?_getD,List.getElem?_eq_getElem hm]
             have w3:IntKind.i64.wrap (m:Int)=(m:Int):=wrap_i64 (by omega) (by omega)
             have hsuc:a5f o x (m+1)=if x < o.getD m 0 then a5f o x m else m+1:=rfl
             rw [hsuc] at hpos
             by_cases hlt:x < o.getD m 0
             · rw [if_pos hlt] at hpos
               rw [← hom] at hlt
               simp [num,nSt3,w1,w2,w3,hpos',hm,h2,hx',hlt]
               refine LoopNext.mk m ⟨by omega,hpos⟩ (by omega) (Le.mk _ _ ?_ ?_)
               · simp [num,w2,w3]
               · simp [M4,tx,num]
             · rw [if_neg hlt] at hpos
               rw [← hom] at hlt
               simp [num,nSt3,w1,w2,w3,hpos',hm,h2,hx',hlt]
               refine ⟨by omega,by omega,by omega,by omega,⟨⟨by omega,by omega⟩,by omega,by omega⟩,?_,?_⟩
               · intro y hy u hu
                 obtain ⟨z,_,rfl⟩:=List.mem_map.1 (List.mem_of_mem_take hy)
                 simp [num] at hu
                 subst hu;rfl
               refine ⟨by omega,by omega,⟨by omega,by omega⟩,by omega,by omega,⟨by omega,by omega⟩,?_,by omega,by omega,?_⟩
               · intro y hy u hu
                 obtain ⟨z,_,rfl⟩:=List.mem_map.1 (List.mem_of_mem_take (List.mem_of_mem_drop hy))
                 simp [num] at hu
                 subst hu;rfl
               have htk:List.take o.length (List.map num o)=List.map num o:=by rw [← List.length_map (f:=num),List.take_length]
               refine LoopNext.mk (i+1) h2 (by omega) (((Le.freeze _ (fun _=>true)).trans (Le.plain _)).trans (Le.mk _ _ ?_ ?_))
               · simp [num,St.freeze,PV.frz,PV.pl,V2,hsti,a5e,← hpos,PV.kill,htk]
                 exact wrap_i64 (by omega) (by omega)
               · simp [M4,tx,num,St.freeze,MObj.pl,PV.frz,PV.frzL,PV.plL,PV.pl,V2,MObj.kill,PV.kill]
       · have e:i=ids.length:=by omega
         subst e
         rw [List.take_length] at hoe
         simp [num]
         refine LoopNext.mk (k+1) h1 (by omega) (Le.mk _ _ ?_ ?_)
         · simp [num,hst,hoe];exact wrap_i64 (by omega) (by omega)
         · simp [M4,tx,num]
   · have e:k=p.channels.length:=by omega
     subst e
     simp [num,V2,PV.pl]
end Go.Proofs
end
section
namespace Go.Proofs
open Go.PW Go.KP Go.Sort
variable [GH]
def srt (zs:List Int):List Int:=zs.mergeSort fun x y=>decide (x≤y)
theorem a3l (zs:List Int):(srt zs).length=zs.length:=List.length_mergeSort zs
def b4d (E:Nat) (zs:List Int) (_:Nat):MObj:=.row E 1 (zs.map num)
theorem b22 {n:Nat} {O:Nat→MObj} {i:Nat} (h:(a0v n O i).live=true):900≤i∧i < 900+n:=by
 unfold a0v at h
 split at h
 · assumption
 · cases h
theorem c0k (zs:List Int) (hl:zs.length≤1048576):a7e Tryz.prog 101 [.own 900] (a0v 1 (b4d 3 zs)) (a4f 1) .undef (a0v 1 (b4d 3 (srt zs))):=by
 intro L w vs γ hL hOwn hgl hgb hvl hargs hmem
 have h900:∀ O:Nat→MObj,a0v 1 O 900=O 0:=fun O=>by simp [a0v]
 obtain ⟨v,rfl⟩:∃ v,vs=[v]:=by
  cases vs with
  | nil=>simp at hvl
  | cons v vs=>cases vs with
   | nil=>exact ⟨v,rfl⟩
   | cons _ _=>simp at hvl
 have hv:v=γ 900:=by
  have:=hargs 0 (by simp)
  simp at this
  cases this with
  | own _ _ h=>exact h
 obtain ⟨us,h1,_,h3,h4⟩:=hmem.row 900 3 1 (zs.map num) (by rw [h900];rfl)
 rw [List.length_map] at h1
 rcases h1.2 with ⟨hnil,h0⟩ | ⟨g,cap,cur,hs,hok,hh,hcap,hmax,hcs,htk⟩
 · have:zs=[]:=List.eq_nil_of_length_eq_zero h0
   subst this
   rw [hv,hnil]
   refine (Tryz.slices_Sort_int_none none 0 w).mono fun e w' hp=>?_
   obtain ⟨rfl,rfl⟩:=hp
   have h0:srt []=[]:=by unfold srt;simp
   rw [h0]
   exact ⟨⟨rfl,rfl,rfl,Nat.le_refl _,fun _ _ _=>rfl⟩,_,γ,rfl,fun _ _=>rfl,.undef _,hmem⟩
 · have hul:us.length=zs.length:=by have:=h1.1;simpa using this
   have hsz:cur.size=cap:=by simpa using hcs
   have hval:∀ j,j < zs.length→us.getD j undef=.int .i64 (zs.getD j 0):=fun j hj=>by
    have:=h3.2 j 0 (by simpa using hj) (by omega)
    have e:((zs.map num).getD j .nilptr)=num (zs.getD j 0):=by simp [List.getD_eq_getElem?_getD,List.getElem?_eq_getElem hj]
    rw [e] at this
    have key:∀ (L:Nat→Prop) (w:World) (z:Int) (u:Value),RepR L w (.int .i64 z) u→u=.int .i64 z:=fun L w z u h=>by cases h;rfl
    have:=key _ _ _ _ this
    rwa [Nat.mul_one,Nat.add_zero] at this
   have hcur:∀ j,j < zs.length→cur[j]?=some (.int .i64 (zs.getD j 0)):=fun j hj=>by
    have e:us[j]?=cur[j]?:=by
     rw [← htk,List.getElem?_take,if_pos (by omega)];simp
    rw [← e,List.getElem?_eq_getElem (by omega)]
    have:=hval j hj
    rw [List.getD_eq_getElem?_getD,List.getElem?_eq_getElem (by omega)] at this
    exact congrArg some this
   have hH:Holds (Value.int .i64) w g 0 zs.toArray:=fun j hj=>by
    have hj':j < zs.length:=by simpa using hj
    refine ⟨?_,?_⟩
    · simp only [World.cell?,hh,Nat.zero_add]
      rw [hcur j hj']
      simp [hj',List.getD_eq_getElem?_getD,List.getElem?_eq_getElem hj']
    · simp [World.frozen?,hh]
   rw [hv,hs]
   refine (Tryz.slices_Sort_int g 0 cap zs w hH (Array.getElem?_eq_some_iff.1 hh).1 (by omega)).mono fun e w' hp=>?_
   obtain ⟨rfl,n,os,rfl⟩:=hp
   have hgs:g < w.heap.size:=(Array.getElem?_eq_some_iff.1 hh).1
   have hheap:∀ k,k < w.heap.size→(grow (putRow (Value.int .i64) (Sort.ahead w n) g 0 (zs.mergeSort fun x y=>decide (x≤y)).toArray) os).heap[k]?=if k=g then some (.cells (putCells (Value.int .i64) 0 (srt zs).toArray cur) 3 (0,0)) else w.heap[k]?:=fun k hk=>by
    simp only [grow,putRow,mapBlock,Sort.ahead]
    rw [Array.getElem?_append_left (by simpa using hk),Array.getElem?_modify]
    by_cases hkg:g=k
    · subst hkg
      rw [if_pos rfl,if_pos rfl,hh];rfl
    · rw [if_neg hkg,if_neg (fun h=>hkg h.symm)]
   have hown:c8q γ (a0v 1 (b4d 3 zs)) g:=⟨900,by rw [h900];rfl,by rw [hs];rfl⟩
   have hpc:∀ j,j < zs.length→(putCells (Value.int .i64) 0 (srt zs).toArray cur)[j]?=some (.int .i64 ((srt zs).getD j 0)):=fun j hj=>by
    have hj2:j < (srt zs).length:=by rw [a3l];exact hj
    have hjc:j < cur.size:=by omega
    simp only [putCells,Array.getElem?_mapIdx,Array.getElem?_eq_getElem hjc,Option.map_some]
    rw [if_pos ⟨by omega,by simpa using hj2⟩]
    simp [hj2,List.getD_eq_getElem?_getD,List.getElem?_eq_getElem hj2]
   refine ⟨⟨rfl,rfl,rfl,?_,fun k hk hx=>?_⟩,_,γ,rfl,fun _ _=>rfl,.undef _,MemInv.of_obj (fun id=>?_) (fun id id' b q1 q2 _ _=>?_)⟩
   · simp only [grow,Array.size_append,size_putRow,heap_ahead];omega
   · rw [hheap k hk,if_neg]
     rintro rfl
     exact hx hown
   · by_cases hid:id=900
     · subst hid
       rw [h900]
       show ∃ us,_
       refine ⟨(srt zs).map fun z=>Value.int .i64 z,⟨by simp,.inr ⟨g,cap,putCells (Value.int .i64) 0 (srt zs).toArray cur,?_,hok,?_,?_,hmax,?_,?_⟩⟩,by omega,⟨fun x hx=>?_,fun i k hi hk=>?_⟩,fun u hu=>?_⟩
       · rw [hs];simp [a3l]
       · rw [hheap g hgs,if_pos rfl]
       · simp [a3l];omega
       · simp [putCells,hsz]
       · apply List.ext_getElem?
         intro j
         rw [List.getElem?_take]
         by_cases hj:j < zs.length
         · rw [if_pos (by simp [a3l];omega),Array.getElem?_toList,hpc j hj,List.getElem?_map,List.getElem?_eq_getElem (by rw [a3l];exact hj)]
           simp [List.getD_eq_getElem?_getD,List.getElem?_eq_getElem (show j < (srt zs).length by rw [a3l];exact hj)]
         · rw [if_neg (by simp [a3l];omega),List.getElem?_eq_none (by simp [a3l];omega)]
       · obtain ⟨z,_,rfl⟩:=List.mem_map.1 hx
         rfl
       · have hk0:k=0:=by omega
         subst hk0
         have hi':i < (srt zs).length:=by simpa using hi
         have e1:(((srt zs).map num).getD i .nilptr)=num ((srt zs).getD i 0):=by simp [List.getD_eq_getElem?_getD,List.getElem?_eq_getElem hi']
         have e2:(((srt zs).map fun z=>Value.int .i64 z).getD (i*1+0) undef)=Value.int .i64 ((srt zs).getD i 0):=by simp [List.getD_eq_getElem?_getD,List.getElem?_eq_getElem hi']
         rw [e1,e2]
         exact .int _ _
       · obtain ⟨z,_,rfl⟩:=List.mem_map.1 hu
         rfl
     · have:a0v 1 (b4d 3 (srt zs)) id=.dead:=by unfold a0v;rw [if_neg (by omega)]
       rw [this];trivial
   · have:=b22 q1
     have:=b22 q2
     omega
end Go.Proofs
end
section
namespace Go.Proofs
open Go.PW Go.KP
attribute [local simp] RV.cells RV.one PV.cells PV.solid PV.one t8 f9 H0 A5 RV.ofCells elems PV.killL
variable [GH]
def lq (cs:List LChannel):List Int:=cs.flatMap fun c=>a0b c.queue.items
theorem c2n (cs:List LChannel) (k:Nat) (h:k < cs.length):lq (cs.take (k+1))=lq (cs.take k)++a0b cs[k].queue.items:=by
 unfold lq
 rw [List.take_add_one,List.getElem?_eq_getElem h,List.flatMap_append];simp
theorem c7l (p:LPipe) (hb:V6 1048576 p) (hq:∀ c∈p.channels,c.queue.items.length≤5) (hc:p.channels.length≤5):d8 Tryz.prog 66 [.val (u0 p)] (.ret (.own 0) [⟨3,1,(srt (a2w p)).map num⟩]) []:=by
 have hlen:∀ k,k≤p.channels.length→(lq (p.channels.take k)).length≤5*k:=by
  intro k
  induction k with
  | zero=>intro _;simp [lq]
  | succ k ih=>
   intro h
   have:=ih (by omega)
   rw [c2n _ _ (by omega),List.length_append]
   have h2:=hq p.channels[k] (List.getElem_mem (by omega))
   unfold a0b
   rw [List.length_map]
   omega
 refine c24 (mk:=fun i=>.own i) mixed ok66 rfl (fun _=>rfl) ?_
 unfold ir66
 rw [b7]
 simp [d9,i6,j6,b8,d7,u0,tx,num]
 refine j7 (X:=Nat) (fun k=>⟨l8 [(3,.own 8),(10,.val (.list 6 (p.channels.map i8))),(11,.val (num p.channels.length)),(12,.val (num k))],l9 [(8,.row 3 1 ((lq (p.channels.take k)).map num))]⟩) (fun k=>k≤p.channels.length) (fun k=>p.channels.length - k) 0 (Le.mk _ _ ?_ ?_) (Nat.zero_le _) ?_
 · simp [num,PV.kill]
 · simp [lq]
 · intro k hk
   simp [num]
   refine f6 (fun h1=>?_) (fun h1=>?_)
   · obtain ⟨c,hce⟩:∃ c,p.channels[k]=c:=⟨_,rfl⟩
     have hst:=c2n p.channels k h1
     have hcq:c.queue.items.length≤5:=by rw [← hce];exact hq _ (List.getElem_mem h1)
     have hl0:=hlen k hk
     rw [hce] at hst
     obtain ⟨o,ho⟩:∃ l,lq (p.channels.take k)=l:=⟨_,rfl⟩
     rw [ho] at hst hl0 ⊢
     simp [num,h1,hce,i8,tx]
     refine j7 (X:=Nat) (fun i=>⟨l8 [(3,.own 8),(10,.val (.list 6 (p.channels.map i8))),(11,.val (num p.channels.length)),(12,.val (num k)),(18,.val (.list 4 (c.queue.items.map j5))),(19,.val (num c.queue.items.length)),(20,.val (num i))],l9 [(8,.row 3 1 ((o++a0b (c.queue.items.take i)).map num))]⟩) (fun i=>i≤c.queue.items.length) (fun i=>c.queue.items.length - i) 0 (Le.mk _ _ ?_ ?_) (Nat.zero_le _) ?_
     · simp [num,PV.kill]
     · simp [a0b]
     · intro i hi
       simp [num]
       refine f6 (fun h2=>?_) (fun h2=>?_)
       · obtain ⟨r,hr⟩:∃ r,c.queue.items[i]=r:=⟨_,rfl⟩
         have hs2:a0b (c.queue.items.take (i+1))=a0b (c.queue.items.take i)++[r.id]:=by unfold a0b;rw [List.take_add_one,List.getElem?_eq_getElem h2,List.map_append,hr];rfl
         have hln:(a0b (c.queue.items.take i)).length=i:=by unfold a0b;simp;omega
         simp [num,h2,hr,j5,tx]
         refine ⟨by omega,by omega,?_⟩
         refine LoopNext.mk (i+1) h2 (by omega) (Le.mk _ _ ?_ ?_)
         · simp [num,PV.kill];exact wrap_i64 (by omega) (by omega)
         · simp [hs2,num]
       · have e:i=c.queue.items.length:=by omega
         subst e
         rw [List.take_length]
         simp [num]
         refine LoopNext.mk (k+1) h1 (by omega) (Le.mk _ _ ?_ ?_)
         · simp [num,PV.kill];exact wrap_i64 (by omega) (by omega)
         · simp [hst]
   · have e:k=p.channels.length:=by omega
     subst e
     rw [List.take_length]
     simp [num]
     have hl9:=hlen p.channels.length (Nat.le_refl _)
     rw [List.take_length] at hl9
     refine c8f [8] (b4d 3 (lq p.channels)) (b4d 3 (srt (lq p.channels))) (b4d 3 (lq p.channels)) (b4d 3 (srt (lq p.channels))) (by simp) (by simp) (ps0:=[.own 900]) rfl (fun j hj=>?_) (fun j hj=>rfl) (fun j hj=>rfl) (fun j hj=>rfl) (fun j hj _=>rfl) (fun j cs hj h=>by cases h) (c0k (lq p.channels) (by omega)) ?_
     · have:j=0:=by simp at hj;omega
       subst this
       simp [b4d,num]
     · simp [num,b4d,b2g,c5i,PV.kill,lq,a2w]
end Go.Proofs
end
section
namespace Go.Proofs
open Go.PW Go.KP
attribute [local simp] RV.cells RV.one PV.cells PV.solid PV.one t8 f9 H0 A5 RV.ofCells elems PV.killL
variable [GF]
theorem b8n (a b:List Int) (ha:a.length < 1099511627776) (hb:b.length < 1099511627776):d8 Tryz.prog 65 [.val (.list 1 (a.map num)),.val (.list 1 (b.map num))] (.ret (.val (.bool (decide (a=b)))) []) []:=by
 refine f5 mixed ok65 rfl (fun _=>rfl) ?_
 unfold ir65
 rw [b7]
 by_cases hlen:a.length=b.length
 rotate_left
 · have h1:¬ (a.length:Int)=b.length:=by omega
   have h2:a≠b:=fun e=>hlen (by rw [e])
   simp [d9,i6,j6,b8,d7,h1,h2]
 simp [d9,i6,j6,b8,d7,num,hlen]
 refine j7 (X:=Nat) (fun i=>⟨l8 [(0,.val (.list 1 (a.map num))),(1,.val (.list 1 (b.map num))),(12,.val (num b.length)),(13,.val (num i))],l9 []⟩) (fun i=>i≤b.length∧a.take i=b.take i) (fun i=>b.length - i) 0 (Le.mk _ _ ?_ ?_) ?_ ?_
 · simp [upd,num]
 · simp
 · simp
 · rintro i ⟨hi,heq⟩
   simp [num]
   refine f6 (fun h1b=>?_) (fun h1=>?_)
   · have h1:i < a.length:=by omega
     have e1:(a.map num)[i]?.getD .nilptr=num a[i]:=by simp [List.getElem?_eq_getElem h1]
     have e2:(b.map num)[i]?.getD .nilptr=num b[i]:=by simp [List.getElem?_eq_getElem h1b]
     simp [num,h1,h1b,e1,e2,tx]
     by_cases hu:a[i]=b[i]
     · simp [hu]
       refine LoopNext.mk (i+1) ⟨by omega,?_⟩ (by omega) (Le.mk _ _ ?_ ?_)
       · rw [List.take_add_one,List.take_add_one,List.getElem?_eq_getElem h1,List.getElem?_eq_getElem h1b,heq,hu]
       · simp [num,tx];exact wrap_i64 (by omega) (by omega)
       · simp
     · have h2:a≠b:=fun e=>hu (by subst e;rfl)
       simp [hu,h2]
   · have e:i=b.length:=by omega
     subst e
     rw [← hlen,List.take_length,hlen,List.take_length] at heq
     simp [heq]
theorem c3p {α:Type} {a b:List α} {i:Nat} (h1:i < a.length) (h2:i < b.length) (h:a.take i=b.take i) (he:a[i]=b[i]):a.take (i+1)=b.take (i+1):=by
 rw [List.take_add_one,List.take_add_one,List.getElem?_eq_getElem h1,List.getElem?_eq_getElem h2,h,he]
theorem c5u (a b:List Int) (ha:a.length < 1099511627776) (hb:b.length < 1099511627776):d8 Tryz.prog 63 [.val (.list 1 (a.map num)),.val (.list 1 (b.map num))] (.ret (.val (.bool (decide (a=b)))) []) []:=by
 refine f5 mixed ok63 rfl (fun _=>rfl) ?_
 unfold ir63
 rw [b7]
 by_cases hlen:a.length=b.length
 rotate_left
 · have h1:¬ (a.length:Int)=b.length:=by omega
   have h2:a≠b:=fun e=>hlen (by rw [e])
   simp [d9,i6,j6,b8,d7,h1,h2]
 simp [d9,i6,j6,b8,d7,num,hlen]
 refine j7 (X:=Nat) (fun i=>⟨l8 [(0,.val (.list 1 (a.map num))),(1,.val (.list 1 (b.map num))),(5,.val (num i))],l9 []⟩) (fun i=>i≤a.length∧a.take i=b.take i) (fun i=>a.length - i) 0 (Le.mk _ _ ?_ ?_) ?_ ?_
 · simp [upd,num]
 · simp
 · simp
 · rintro i ⟨hi,heq⟩
   simp [num]
   refine f6 (fun h1=>?_) (fun h1=>?_)
   · have h1b:i < b.length:=by omega
     have wi:IntKind.i64.wrap ((i:Int)+1)=((i+1:Nat):Int):=by rw [wrap_i64 (by omega) (by omega)];omega
     simp [num,h1,h1b]
     by_cases hu:a[i]=b[i]
     · simp [hu]
       refine LoopNext.mk (i+1) ⟨by omega,c3p h1 h1b heq hu⟩ (by omega) (Le.mk _ _ ?_ ?_)
       · simp [num,wi]
       · simp
     · have h2:a≠b:=fun e=>hu (by subst e;rfl)
       simp [hu,h2]
   · have e:i=a.length:=by omega
     subst e
     rw [List.take_length,hlen,List.take_length] at heq
     simp [heq]
end Go.Proofs
end
section
namespace Go.Proofs
open Go.PW Go.KP
attribute [local simp] RV.cells RV.one PV.cells PV.solid PV.one t8 f9 H0 A5 RV.ofCells elems PV.killL
variable [GH]
def a1j (ks:List Int):Bool:=match ks with
 | [a]=>decide (a=1) || decide (a=6) || decide (a=7)
 | [a,b]=>decide (a=1) && decide (2≤b∧b≤5)
 | _=>false
def T4 (log:List LEntry) (id:Int):List Int:=(Z4 log id).map fun e=>e.kind
theorem c8g (p:LPipe) (id:Int) (hb:V6 1048576 p):d8 Tryz.prog 62 [.val (u0 p),.val (num id)] (.ret (.val (.bool (a1j (T4 p.log id)))) []) []:=by
 refine f5 mixed ok62 rfl (fun _=>rfl) ?_
 unfold ir62
 rw [b7]
 have hE:=b6k p id hb
 unfold T4
 obtain ⟨L,hL⟩:∃ L,Z4 p.log id=L:=⟨_,rfl⟩
 rw [hL] at hE ⊢
 simp [d9,i6,j6,b8,d7,u0,tx,num,f9]
 refine b6 rfl rfl (.inl rfl) hE ?_
 match L with
 | []=>simp [num,a1j]
 | [e]=>
  simp [num,a1j,u1]
  by_cases h1:e.kind=1
  · simp [num,h1,a1j]
  · by_cases h6:e.kind=6
    · simp [num,h6,a1j]
    · by_cases h7:e.kind=7
      · simp [num,h7,a1j]
      · simp [num,h1,h6,h7,a1j]
 | [e,f]=>
  simp [num,a1j,u1]
  by_cases h1:e.kind=1
  · simp [num,h1,u1]
    refine b6 rfl rfl (.inl rfl) (S6 .i64 f.kind 2 5) ?_
    by_cases h2:2≤f.kind∧f.kind≤5<;>simp [num,h1,h2,a1j]
  · simp [num,h1,a1j]
 | e :: f :: g :: r=>
  have h3:(2:Int) < (r.length:Int)+1+1+1:=by omega
  have h0:¬ (r.length:Int)+1+1+1=0:=by omega
  simp [num,a1j,h3,h0]
def a2u (log:List LEntry):Nat→Bool
 | 0=>true
 | n+1=>a2u log n && a1j (T4 log ((n+1:Nat):Int))
theorem a60 (log:List LEntry):∀ (m n:Nat),n≤m→a2u log n=false→a2u log m=false
 | 0,n,h,hf=>by obtain rfl:n=0:=by omega
                exact hf
 | m+1,n,h,hf=>by
  by_cases e:n=m+1
  · rw [← e];exact hf
  · unfold a2u;rw [a60 log m n (by omega) hf];rfl
def ofR (p:LPipe):Bool:=decide (acC p=0) && a2u p.log (p.next - 1).toNat && decide (b2r p 1=a5h p.channels)
theorem ok_channels {p:LPipe} (h:H4 p=true):(∀ c∈p.channels,c.queue.items.length≤5)∧p.channels.length≤5:=by
 unfold H4 at h
 simp only [Bool.and_eq_true,decide_eq_true_eq] at h
 refine ⟨fun c hc=>?_,h.1.1.1.1.1.1⟩
 obtain ⟨i,hi,rfl⟩:=List.mem_iff_getElem.1 hc
 have h3:=c3c h.2.1.1 i hi
 rw [a99 hi] at h3
 unfold P8 R2 at h3
 simp only [Bool.and_eq_true,decide_eq_true_eq] at h3
 exact h3.2.1.2.1.1
theorem c6y (cs:List LChannel) (hq:∀ c∈cs,c.queue.items.length≤5):(lq cs).length≤5*cs.length:=by
 induction cs with
 | nil=>simp [lq]
 | cons c cs ih=>
  have h1:=ih (fun d hd=>hq d (List.mem_cons_of_mem _ hd))
  have h2:=hq c (List.mem_cons_self ..)
  have:lq (c :: cs)=a0b c.queue.items++lq cs:=by simp [lq]
  rw [this,List.length_append]
  unfold a0b
  simp only [List.length_map,List.length_cons]
  omega
theorem c5v (p:LPipe) (hb:V6 1048576 p):d8 Tryz.prog 29 [.val (u0 p)] (.ret (.tup [.val (.bool (ofR p)),.val (num (acC p))]) []) []:=by
 refine f5 mixed ok29 rfl (fun _=>rfl) ?_
 unfold ir29
 rw [b7]
 simp [d9,i6,j6,b8,d7,u0,tx,num,f9]
 refine b6 rfl rfl (.inl rfl) (c8j p hb) ?_
 by_cases hac:acC p=0
 · obtain ⟨hok,hn⟩:=b9o hac
   obtain ⟨hq,hc5⟩:=ok_channels hok
   have hR:ofR p=(a2u p.log (p.next - 1).toNat && decide (b2r p 1=a5h p.channels)):=by unfold ofR;rw [hac];simp
   obtain ⟨N,hN⟩:∃ N,(p.next - 1).toNat=N:=⟨_,rfl⟩
   rw [hN] at hR
   simp [num,hac]
   refine j7 (X:=Nat) (fun n=>⟨l8 [(1,.ptr 1 0),(2,.val (.bool false)),(3,.val (num 0)),(5,.val (num ((n+1:Nat):Int)))],l9 [(1,M4 p)]⟩) (fun n=>n≤N∧a2u p.log n=true) (fun n=>N - n) 0 (Le.mk _ _ ?_ ?_) ⟨Nat.zero_le _,rfl⟩ ?_
   · simp [num,PV.kill]
   · simp [M4,tx,num,MObj.kill,PV.kill]
   · rintro n ⟨hi,hal⟩
     simp [num,M4,tx]
     refine f6 (fun h1=>?_) (fun h1=>?_)
     · have hF:=c8g p ((n+1:Nat):Int) hb
       have hst:a2u p.log (n+1)=(a2u p.log n && a1j (T4 p.log ((n+1:Nat):Int))):=rfl
       have e1:((n+1:Nat):Int)=(n:Int)+1:=by omega
       rw [e1] at hF hst
       simp [num,f9]
       refine b6 rfl rfl (.inl rfl) hF ?_
       rw [hal,Bool.true_and] at hst
       cases hlo:a1j (T4 p.log ((n:Int)+1)) with
       | true=>
        rw [hlo] at hst
        simp [num]
        refine LoopNext.mk (n+1) ⟨by omega,hst⟩ (by omega) (Le.mk _ _ ?_ ?_)
        · simp [num];exact wrap_i64 (by omega) (by omega)
        · simp [num,M4,tx]
       | false=>
        rw [hlo] at hst
        have:=a60 p.log N (n+1) (by omega) hst
        simp [num,hR,this,hac]
     · have e:n=N:=by omega
       subst e
       have hl1:=b72 p 1 hn
       have hl2:(a5h p.channels).length < 1099511627776:=by
        have h5:=c6y p.channels hq
        have h6:(a5h p.channels).length=(a2w p).length:=by rw [b4u];exact List.length_mergeSort _
        have h7:a2w p=lq p.channels:=rfl
        rw [h6,h7];omega
       simp [num,f9]
       refine m0 rfl rfl (.inl rfl) (c8i p 1 hb hn) ?_
       simp [num,f9]
       refine b6 rfl rfl (.inl rfl) (c8h p hb hq hc5) ?_
       simp [num,f9]
       refine b6 rfl rfl (.inl rfl) (c5u (b2r p 1) (a5h p.channels) (by omega) hl2) ?_
       simp [num,hR,hal,hac]
 · have hR:ofR p=false:=by unfold ofR;simp [hac]
   simp [num,hac,hR]
end Go.Proofs
end
section
namespace Go.Proofs
open Go.PW Go.KP
attribute [local simp] RV.cells RV.one PV.cells PV.solid PV.one t8 f9 H0 A5 RV.ofCells elems PV.killL
variable [GH]
theorem b71 (l:List LEntry) (e:LEntry) (z:Int):T4 (l++[e]) z=if e.id=z then T4 l z++[e.kind] else T4 l z:=by
 unfold T4 Z4
 rw [List.filter_append]
 by_cases h:e.id=z<;>simp [h]
def c66 (x:Nat×(MKey→Option (PV×Nat))) (e:LEntry):Nat×(MKey→Option (PV×Nat)):=match x.2 (.i e.id) with
 | some _=>x
 | none=>(x.1+1,a0o x.2 (.i e.id) (.own (DN 11 e.id.toNat)) x.1)
def a78 (l:List LEntry):Nat×(MKey→Option (PV×Nat)):=l.foldl c66 (0,fun _=>none)
theorem b4v (l:List LEntry) (i:Nat) (h:i < l.length):a78 (l.take (i+1))=c66 (a78 (l.take i)) l[i]:=by
 unfold a78
 rw [List.take_add_one,List.getElem?_eq_getElem h,List.foldl_append];rfl
theorem a4a (l:List LEntry) (i:Nat) (h:i < l.length) (z:Int):T4 (l.take (i+1)) z=if l[i].id=z then T4 (l.take i) z++[l[i].kind] else T4 (l.take i) z:=by
 rw [List.take_add_one,List.getElem?_eq_getElem h];exact b71 _ _ _
def KM (m:MKey→Option (PV×Nat)) (ks:Int→List Int):Prop:=(∀ k p,m k=some p→∃ z:Int,k=.i z∧0≤z∧p.1=.own (DN 11 z.toNat))∧∀ z,(m (.i z)=none↔ks z=[])
theorem c2q (l:List LEntry) (h:∀ e∈l,0≤e.id):∀ i,i≤l.length→KM (a78 (l.take i)).2 (T4 (l.take i))
 | 0,_=>by
  refine ⟨fun k p h=>?_,fun z=>?_⟩
  · simp [a78] at h
  · simp [a78,T4,Z4]
 | i+1,hi=>by
  have ih:=c2q l h i (by omega)
  have h0:=h l[i] (List.getElem_mem hi)
  rw [b4v l i hi]
  unfold c66
  cases hq:(a78 (l.take i)).2 (.i l[i].id) with
  | some q=>
   refine ⟨ih.1,fun z=>?_⟩
   rw [ih.2 z,a4a l i hi]
   by_cases he:l[i].id=z
   · subst he
     have h1:T4 (l.take i) l[i].id≠[]:=fun e=>by rw [← ih.2] at e;rw [e] at hq;cases hq
     simp [h1]
   · rw [if_neg he]
  | none=>
   refine ⟨fun k p hp=>?_,fun z=>?_⟩
   · simp only [a0o] at hp
     by_cases hk:k=.i l[i].id
     · rw [if_pos hk] at hp
       cases hp
       exact ⟨l[i].id,hk,h0,rfl⟩
     · rw [if_neg hk] at hp
       exact ih.1 k p hp
   · rw [a4a l i hi]
     simp only [a0o]
     by_cases he:l[i].id=z
     · subst he;simp
     · have:¬ (MKey.i z=.i l[i].id):=fun e=>he (by cases e;rfl)
       rw [if_neg this,if_neg he]
       exact ih.2 z
def kF (l:List LEntry) (k j:Nat):MObj:=if k=11∧T4 l (j:Int)≠[] then .row 3 1 ((T4 l (j:Int)).map num) else .dead
theorem KM.put {m:MKey→Option (PV×Nat)} {ks:Int→List Int} (h:KM m ks) {z:Int} (hz:0≤z) {p:PV×Nat} (hp:m (.i z)=some p):a0o (fun k=>(m k).map fun p=>(p.1.kill (· == DN 11 z.toNat),p.2)) (.i z) (.own (DN 11 z.toNat)) p.2=m:=by
 funext k
 simp only [a0o]
 by_cases hk:k=.i z
 · subst hk
   rw [if_pos rfl,hp]
   obtain ⟨z',h1,_,h2⟩:=h.1 _ _ hp
   cases h1
   rw [← h2]
 · rw [if_neg hk]
   cases hq:m k with
   | none=>rfl
   | some q=>
    obtain ⟨z',h1,h2,h3⟩:=h.1 _ _ hq
    subst h1
    have hne:¬ (z'=z):=fun e=>hk (by rw [e])
    have h4:(DN 11 z'.toNat == DN 11 z.toNat)=false:=by
     rw [beq_eq_false_iff_ne]
     intro e
     rw [a5p (by omega) (by omega)] at e
     omega
    show some (q.1.kill _,q.2)=some q
    obtain ⟨q1,q2⟩:=q
    have h3:q1=.own (DN 11 z'.toNat):=h3
    subst h3
    simp [PV.kill,h4]
theorem KM.lo {m:MKey→Option (PV×Nat)} {ks:Int→List Int} (h:KM m ks) {f:Nat→Bool} (hf:∀ z:Int,f (DN 11 z.toNat)=false):(fun k=>(m k).map fun p=>(p.1.kill f,p.2))=m:=by
 funext k
 cases hq:m k with
 | none=>rfl
 | some q=>
  obtain ⟨z',h1,h2,h3⟩:=h.1 _ _ hq
  obtain ⟨q1,q2⟩:=q
  have h3:q1=.own (DN 11 z'.toNat):=h3
  subst h3
  simp [PV.kill,hf]
theorem KM.lo2 {m:MKey→Option (PV×Nat)} {ks:Int→List Int} (h:KM m ks) {f g:Nat→Bool} (hf:∀ z:Int,f (DN 11 z.toNat)=false) (hg:∀ z:Int,g (DN 11 z.toNat)=false):(fun k=>(m k).map ((fun p=>(p.1.kill f,p.2)) ∘ fun p=>(p.1.kill g,p.2)))=m:=by
 have h1:=h.lo hg
 have h2:=h.lo hf
 funext k
 have e1:=congrFun h1 k
 have e2:=congrFun h2 k
 cases hq:m k with
 | none=>rfl
 | some q=>
  rw [hq] at e1 e2
  simp only [Option.map_some,Option.some.injEq] at e1 e2 ⊢
  have e3:q.1.kill g=q.1:=congrArg Prod.fst e1
  simp only [Function.comp]
  rw [e3];exact e2
theorem KM.put2 {m:MKey→Option (PV×Nat)} {ks:Int→List Int} (h:KM m ks) {z:Int} (hz:0≤z) {q:Nat} (hp:m (.i z)=some (.own (DN 11 z.toNat),q)) {g:Nat→Bool} (hg:∀ z:Int,g (DN 11 z.toNat)=false):a0o (fun k=>(m k).map ((fun p=>(p.1.kill fun x=>x == DN 11 z.toNat,p.2)) ∘ fun p=>(p.1.kill g,p.2))) (.i z) (.own (DN 11 z.toNat)) q=m:=by
 have h1:=h.put hz hp
 have h2:=h.lo hg
 have:(fun k=>(m k).map ((fun p=>(p.1.kill fun x=>x == DN 11 z.toNat,p.2)) ∘ fun p=>(p.1.kill g,p.2)))=fun k=>(m k).map fun p=>(p.1.kill (fun x=>x == DN 11 z.toNat),p.2):=by
  funext k
  have e2:=congrFun h2 k
  cases hq:m k with
  | none=>rfl
  | some q=>
   rw [hq] at e2
   simp only [Option.map_some,Option.some.injEq] at e2 ⊢
   have e3:q.1.kill g=q.1:=congrArg Prod.fst e2
   simp only [Function.comp]
   rw [e3]
 rw [this];exact h1
theorem KM.ren {m:MKey→Option (PV×Nat)} {ks:Int→List Int} (h:KM m ks) {z:Int} (hz:0≤z) (hn:m (.i z)=none) {s:Nat} (hs:s < 1000000) (b:Nat):(fun k=>(a0o m (.i z) (.own s) b k).map fun p=>(p.1.ren (swp s (DN 11 z.toNat)),p.2))=a0o m (.i z) (.own (DN 11 z.toNat)) b:=by
 funext k
 simp only [a0o]
 by_cases hk:k=.i z
 · rw [if_pos hk,if_pos hk]
   simp [PV.ren,swp]
 · rw [if_neg hk,if_neg hk]
   cases hq:m k with
   | none=>rfl
   | some q=>
    obtain ⟨z',h1,h2,h3⟩:=h.1 _ _ hq
    subst h1
    have hne:¬ (z'=z):=fun e=>hk (by rw [e])
    obtain ⟨q1,q2⟩:=q
    have h3:q1=.own (DN 11 z'.toNat):=h3
    subst h3
    have e1:DN 11 z'.toNat≠s:=by unfold DN;omega
    have e2:DN 11 z'.toNat≠DN 11 z.toNat:=fun e=>by
     rw [a5p (by omega) (by omega)] at e
     omega
    simp [PV.ren,a44 e1 e2]
theorem log_ids {p:LPipe} (h:H4 p=true):∀ e∈p.log,1≤e.id∧e.id≤p.next - 1:=by
 unfold H4 at h
 simp only [Bool.and_eq_true] at h
 intro e he
 obtain ⟨i,hi,rfl⟩:=List.mem_iff_getElem.1 he
 have:=c3c h.2.1.2 i hi
 rw [a9k hi] at this
 simp only [Bool.and_eq_true,decide_eq_true_eq] at this
 omega
theorem b51 {l:List LEntry} {z:Int} (hz:0≤z) (h:T4 l z≠[]):kF l 11 z.toNat=.row 3 1 ((T4 l z).map num):=by
 unfold kF
 have:((z.toNat:Nat):Int)=z:=by omega
 rw [this,if_pos ⟨rfl,h⟩]
theorem kF_dead {l:List LEntry} {z:Int} (hz:0≤z) (h:T4 l z=[]):kF l 11 z.toNat=.dead:=by
 unfold kF
 have:((z.toNat:Nat):Int)=z:=by omega
 rw [this,if_neg fun h'=>h'.2 h]
theorem b77 (l:List LEntry) (k j:Nat):kF l k j=.dead∨∃ xs,kF l k j=.row 3 1 xs:=by
 unfold kF
 split
 · exact .inr ⟨_,rfl⟩
 · exact .inl rfl
theorem c2r {l:List LEntry} {i:Nat} (h:i < l.length) (h0:0≤l[i].id) {k j:Nat} (hne:¬ (k=11∧j=l[i].id.toNat)):kF (l.take (i+1)) k j=kF (l.take i) k j:=by
 unfold kF
 by_cases hk:k=11
 · have:¬ (l[i].id=(j:Int)):=fun e=>hne ⟨hk,by omega⟩
   rw [a4a l i h,if_neg this]
 · rw [if_neg fun h=>hk h.1,if_neg fun h=>hk h.1]
theorem c0s (l:List LEntry) (z:Int):(T4 l z).length≤l.length:=by
 unfold T4 Z4
 rw [List.length_map]
 exact List.length_filter_le _ _
theorem c4u (p:LPipe) (hb:V6 1048576 p):d8 Tryz.prog 30 [.val (u0 p)] (.ret (.tup [.val (.bool (ofR p)),.val (num (acC p))]) []) []:=by
 refine f5 mixed ok30 rfl (fun _=>rfl) ?_
 unfold ir30
 rw [b7]
 have hll:p.log.length≤1048576:=hb.2.2.1
 simp [d9,i6,j6,b8,d7,u0,tx,num,f9]
 refine b6 rfl rfl (.inl rfl) (c4q p hb) ?_
 by_cases hac:acC p=0
 rotate_left
 · have hR:ofR p=false:=by unfold ofR;simp [hac]
   simp [num,hac,hR]
 obtain ⟨hok,hn⟩:=b9o hac
 obtain ⟨hq,hc5⟩:=ok_channels hok
 have hids:=log_ids hok
 have hkm:=c2q p.log fun e he=>by have:=(hids e he).1;omega
 have hR:ofR p=(a2u p.log (p.next - 1).toNat && decide (b2r p 1=a5h p.channels)):=by unfold ofR;rw [hac];simp
 simp [num,hac]
 refine j7 (X:=Nat) (fun i=>⟨l8 [(1,.ptr 1 0),(5,.own 15),(17,.val (.list 3 (p.log.map u1))),(18,.val (num p.log.length)),(19,.val (num i))],b36 [(1,M4 p),(15,.map false (a78 (p.log.take i)).1 (a78 (p.log.take i)).2)] (kF (p.log.take i))⟩) (fun i=>i≤p.log.length) (fun i=>p.log.length - i) 0 (Le.mkDN _ _ _ ?_ ?_ ?_) (Nat.zero_le _) ?_
 · simp [num,PV.kill]
 · intro kp hkp
   simp at hkp
   rcases hkp with rfl | rfl
   · simp [M4,tx,num,MObj.kill,PV.kill];exact .refl _
   · simp [a78];exact .refl _
 · intro k j hk
   simp [kF,T4,Z4]
   exact .dead _
 · intro i hi
   have hK:=hkm i hi
   simp [num,x4,G7]
   refine f6 (fun h1=>?_) (fun h1=>?_)
   · obtain ⟨e,he⟩:∃ e,p.log[i]=e:=⟨_,rfl⟩
     have hid:=hids e (by rw [← he];exact List.getElem_mem h1)
     have wi:IntKind.i64.wrap ((i:Int)+1)=((i+1:Nat):Int):=by rw [wrap_i64 (by omega) (by omega)];omega
     have hst:=b4v p.log i h1
     have hlk:=a4a p.log i h1
     rw [he] at hst hlk
     have hlo:=hK.lo (f:=fun x=>x == 7) (fun z=>by rw [beq_eq_false_iff_ne];unfold DN;omega)
     simp [num,h1,he,u1,x4,G7,PV.kill,MObj.kill,hlo]
     cases hqq:(a78 (p.log.take i)).2 (.i e.id) with
     | some q=>
      obtain ⟨z',hz1,hz2,hz3⟩:=hK.1 _ _ hqq
      cases hz1
      obtain ⟨q1,q2⟩:=q
      have hz3:q1=.own (DN 11 e.id.toNat):=hz3
      subst hz3
      have hne:T4 (p.log.take i) e.id≠[]:=fun e=>by rw [← hK.2] at e;rw [e] at hqq;cases hqq
      have hrow:=b51 hz2 hne
      have hln:=c0s (p.log.take i) e.id
      rw [List.length_take] at hln
      have hput:=hK.put2 hz2 hqq (g:=fun x=>x == 7) (fun z=>by rw [beq_eq_false_iff_ne];unfold DN;omega)
      simp [num,x4,G7,W4,Z0,T5,hrow]
      refine ⟨.inr (by unfold DN;omega),by omega,by omega,?_⟩
      simp [num,hqq]
      refine LoopNext.mk (i+1) h1 (by omega) (Le.mkDN _ _ _ ?_ ?_ ?_)
      · simp [num,wi,PV.kill,Z0,T5]
      · intro kp hkp
        simp at hkp
        rcases hkp with rfl | rfl
        · simp [num,M4,tx,Z0,T5,x4,G7,MObj.kill,PV.kill]
          exact .refl _
        · simp [num,M4,tx,Z0,T5,x4,G7,MObj.kill,PV.kill,hst,c66,hqq,hput]
          exact .refl _
      · intro k j hk
        simp [Z0,T5,x4,G7,W4 hk,a5p hk]
        by_cases hc:k=11∧j=e.id.toNat
        · rw [if_pos hc,hc.1,hc.2,b51 hz2 (by rw [hlk,if_pos rfl];simp),hlk,if_pos rfl]
          simp [num]
          exact .refl _
        · have hnx:=c2r h1 (by rw [he];exact hz2) (k:=k) (j:=j) (by rw [he];exact hc)
          rw [if_neg hc,hnx]
          rcases b77 (p.log.take i) k j with h | ⟨xs,h⟩<;>rw [h]<;>exact .refl _
     | none=>
      have hem:=(hK.2 _).1 hqq
      have hdd:=kF_dead (l:=p.log.take i) (by omega) hem
      have hl2:=hK.lo2 (f:=fun x=>x == 33) (g:=fun x=>x == 7) (fun z=>by rw [beq_eq_false_iff_ne];unfold DN;omega) (fun z=>by rw [beq_eq_false_iff_ne];unfold DN;omega)
      simp [num,x4,G7,hqq,hl2]
      refine LoopNext.mk (i+1) h1 (by omega) (Le.trans (Le.swap 33 (DN 11 e.id.toNat) 3 1 [.int .i64 e.kind] (by rfl) (.inr (by unfold DN;omega)) ?_ ?_) (Le.mkDN _ _ _ ?_ ?_ ?_))
      · simp
      · simp [Z0,T5,x4,G7,W4,hdd]
      · simp [num,wi,PV.kill,PV.ren,swp,Z0,T5]
      · intro kp hkp
        simp at hkp
        rcases hkp with rfl | rfl
        · simp [num,M4,tx,Z0,T5,x4,G7,MObj.kill,PV.kill,MObj.ren,PV.ren,swp]
          exact .refl _
        · simp [num,M4,tx,Z0,T5,x4,G7,MObj.kill,PV.kill,MObj.ren,PV.ren,a44,hst,c66,hqq]
          have hrn:=hK.ren (by omega) hqq (s:=33) (by omega) (a78 (p.log.take i)).1
          rw [hrn]
          exact .refl _
      · intro k j hk
        by_cases hc:k=11∧j=e.id.toNat
        · rw [hc.1,hc.2,b51 (by omega) (by rw [hlk,if_pos rfl];simp),hlk,if_pos rfl,hem]
          have e1:swp 33 (DN 11 e.id.toNat) (DN 11 e.id.toNat)=33:=by unfold swp;rw [if_neg (by unfold DN;omega),if_pos rfl]
          simp [e1,MObj.ren,num]
          exact .refl _
        · have hnx:=c2r h1 (by rw [he];omega) (k:=k) (j:=j) (by rw [he];exact hc)
          have e1:swp 33 (DN 11 e.id.toNat) (DN k j)=DN k j:=a44 (by unfold DN;omega) (fun h=>by rw [a5p hk (by omega)] at h;exact hc h)
          rw [hnx]
          simp [e1,Z0,T5,x4,G7,W4 hk]
          rcases b77 (p.log.take i) k j with h | ⟨xs,h⟩<;>rw [h]<;>exact .refl _
   · have ei:i=p.log.length:=by omega
     subst ei
     rw [List.take_length]
     have hK:=hkm p.log.length (Nat.le_refl _)
     rw [List.take_length] at hK
     simp [num,x4,G7]
     obtain ⟨N,hN⟩:∃ N,(p.next - 1).toNat=N:=⟨_,rfl⟩
     rw [hN] at hR
     refine j7 (X:=Nat) (fun n=>⟨l8 [(1,.ptr 1 0),(5,.own 15),(8,.val (num ((n+1:Nat):Int)))],b36 [(1,M4 p),(15,.map false (a78 p.log).1 (a78 p.log).2)] (kF p.log)⟩) (fun n=>n≤N∧a2u p.log n=true) (fun n=>N - n) 0 (Le.mkDN _ _ _ ?_ ?_ ?_) ⟨Nat.zero_le _,rfl⟩ ?_
     · simp [num]
     · intro kp hkp
       simp at hkp
       rcases hkp with rfl | rfl
       · simp [x4,G7];exact .refl _
       · simp [x4,G7];exact .refl _
     · intro k j hk
       simp [x4,G7,Z0,T5,W4 hk]
       exact .refl _
     · rintro n ⟨hi,hal⟩
       simp [num,x4,G7,M4,tx]
       refine f6 (fun h1=>?_) (fun h1=>?_)
       · have hst:a2u p.log (n+1)=(a2u p.log n && a1j (T4 p.log ((n+1:Nat):Int))):=rfl
         have e1:((n+1:Nat):Int)=(n:Int)+1:=by omega
         rw [e1,hal,Bool.true_and] at hst
         have w1:IntKind.i64.wrap ((n:Int)+1+1)=((n+1+1:Nat):Int):=by rw [wrap_i64 (by omega) (by omega)];omega
         have A1:a1j (T4 p.log ((n:Int)+1))=false→ofR p=false:=fun h=>by
          rw [h] at hst
          rw [hR,a60 p.log N (n+1) (by omega) hst];rfl
         obtain ⟨ks,hks⟩:∃ ks,T4 p.log ((n:Int)+1)=ks:=⟨_,rfl⟩
         rw [hks] at A1 hst
         cases hq1:(a78 p.log).2 (.i ((n:Int)+1)) with
         | none=>
          have hem:=(hK.2 _).1 hq1
          rw [hks] at hem
          subst hem
          simp [num,hq1,A1 (by rfl),hac,x4,G7]
         | some q=>
          obtain ⟨z',hz1,hz2,hz3⟩:=hK.1 _ _ hq1
          cases hz1
          obtain ⟨q1,q2⟩:=q
          have hz3:q1=.own (DN 11 ((n:Int)+1).toNat):=hz3
          subst hz3
          have hne:T4 p.log ((n:Int)+1)≠[]:=fun e=>by rw [← hK.2] at e;rw [e] at hq1;cases hq1
          have hrow:=b51 hz2 hne
          have ht:((n:Int)+1).toNat=n+1:=by omega
          rw [hks,ht] at hrow
          rw [hks] at hne
          match ks,hne with
          | [a],_=>
           simp [num,hq1,x4,G7,W4,Z0,T5,hrow]
           by_cases ha1:a=1
           · subst ha1
             simp [num,x4,G7,W4,Z0,T5,hrow]
             refine LoopNext.mk (n+1) ⟨by omega,by rw [hst];rfl⟩ (by omega) (Le.mkDN _ _ _ ?_ ?_ ?_)
             · simp [num,w1]
             · intro kp hkp
               simp at hkp
               rcases hkp with rfl | rfl
               · simp [x4,G7,M4,tx,num];exact .refl _
               · simp [x4,G7];exact .refl _
             · intro k j hk
               simp [x4,G7,Z0,T5,W4 hk]
               exact .refl _
           · by_cases ha6:a=6
             · subst ha6
               simp [num,x4,G7,W4,Z0,T5,hrow]
               refine LoopNext.mk (n+1) ⟨by omega,by rw [hst];rfl⟩ (by omega) (Le.mkDN _ _ _ ?_ ?_ ?_)
               · simp [num,w1]
               · intro kp hkp
                 simp at hkp
                 rcases hkp with rfl | rfl
                 · simp [x4,G7,M4,tx,num];exact .refl _
                 · simp [x4,G7];exact .refl _
               · intro k j hk
                 simp [x4,G7,Z0,T5,W4 hk]
                 exact .refl _
             · by_cases ha7:a=7
               · subst ha7
                 simp [num,x4,G7,W4,Z0,T5,hrow]
                 refine LoopNext.mk (n+1) ⟨by omega,by rw [hst];rfl⟩ (by omega) (Le.mkDN _ _ _ ?_ ?_ ?_)
                 · simp [num,w1]
                 · intro kp hkp
                   simp at hkp
                   rcases hkp with rfl | rfl
                   · simp [x4,G7,M4,tx,num];exact .refl _
                   · simp [x4,G7];exact .refl _
                 · intro k j hk
                   simp [x4,G7,Z0,T5,W4 hk]
                   exact .refl _
               · have hf:=A1 (by simp [a1j,ha1,ha6,ha7])
                 simp [num,x4,G7,W4,Z0,T5,hrow,ha1,ha6,ha7,hac,hf]
          | [a,b],_=>
           simp [num,hq1,x4,G7,W4,Z0,T5,hrow]
           by_cases ha1:a=1
           · subst ha1
             simp [num,x4,G7,W4,Z0,T5,hrow]
             refine b6 rfl rfl (.inl rfl) (P6 b 2 5) ?_
             by_cases h2:2≤b∧b≤5
             · simp [num,h2]
               refine LoopNext.mk (n+1) ⟨by omega,by rw [hst];simp [a1j,h2]⟩ (by omega) (Le.mkDN _ _ _ ?_ ?_ ?_)
               · simp [num,w1]
               · intro kp hkp
                 simp at hkp
                 rcases hkp with rfl | rfl
                 · simp [x4,G7,M4,tx,num];exact .refl _
                 · simp [x4,G7];exact .refl _
               · intro k j hk
                 simp [x4,G7,Z0,T5,W4 hk]
                 exact .refl _
             · have hf:=A1 (by simp [a1j,h2])
               simp [num,h2,hac,hf]
           · have hf:=A1 (by simp [a1j,ha1])
             simp [num,ha1,hac,hf]
          | a :: b :: c :: r,_=>
           have hf:=A1 (by simp [a1j])
           have c1:¬ (r.length:Int)+1+1+1=1:=by omega
           have c2:¬ (r.length:Int)+1+1+1=2:=by omega
           simp [num,hq1,x4,G7,W4,Z0,T5,hrow,hac,c1,c2,hf]
       · have en:n=N:=by omega
         subst en
         have hl1:=b72 p 1 hn
         have h5:=c6y p.channels hq
         have h6:(srt (a2w p)).length=(a2w p).length:=a3l _
         have h7:a2w p=lq p.channels:=rfl
         have h8:srt (a2w p)=a5h p.channels:=(b4u p).symm
         simp [num,x4,G7,M4,tx,f9]
         refine m0 rfl rfl (.inl rfl) (ok_val (i_ids p 1 hb hn)) ?_
         simp [num,x4,G7,M4,tx,f9]
         refine c8d rfl rfl rfl (.inl rfl) (c7l p hb hq hc5) ?_
         simp [num,L9,PV.shift,h8]
         refine b6 rfl rfl (.inr rfl) (b8n (b2r p 1) (a5h p.channels) (by omega) (by rw [← h8,h6,h7];omega)) ?_
         simp [num,hR,hal,hac]
end Go.Proofs
end
section
namespace Go.Proofs
open Go.PW Go.KP
attribute [local simp] RV.cells RV.one PV.cells PV.solid PV.one t8 f9 H0 A5 RV.ofCells elems PV.killL
variable [GH]
theorem b76 (p:LPipe) (hb:V6 9223372036854775807 p):d8 Tryz.prog 8 [.val (u0 p)] (.ret (.val (.bool true)) []) []:=by
 refine f5 mixed ok8 rfl (fun _=>rfl) ?_
 unfold ir8
 rw [b7]
 simp [d9,i6,j6,b8,d7,u0,tx,num,f9]
 refine b6 rfl rfl (.inl rfl) (c7y p 1048576 (by omega) (by omega) hb) ?_
 by_cases hz:cut 1048576 (b6q p) < 0
 · simp [num,hz]
 · obtain ⟨hz1,_⟩:=c5j hz (by omega)
   have hs:V6 1048576 p:=c54 (by omega)
   simp [num,hz,f9]
   refine b6 rfl rfl (.inl rfl) (b26 p hs) ?_
   simp [f9,num]
   refine V4 rfl rfl (.inl rfl) (c5v p hs) ?_
   simp [f9,u0,tx,num]
   refine b6 rfl rfl (.inl rfl) (b26 p hs) ?_
   simp [f9,u0,tx,num]
   refine V4 rfl rfl (.inl rfl) (c4u p hs) ?_
   simp [f9,u0,tx,num]
   refine m0 rfl rfl (.inl rfl) (b26 p hs) ?_
   simp [f9,u0,tx,num]
   refine b6 rfl rfl (.inl rfl) (c73 p hs) ?_
   simp
end Go.Proofs
end
