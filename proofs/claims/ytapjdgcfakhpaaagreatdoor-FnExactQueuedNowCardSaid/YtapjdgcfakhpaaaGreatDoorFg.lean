/- Fg: merged out of KXk, KXl, KXn, KXo, KXp. -/
import Derived.Test.YtapjdgcfakhpaaaGreatDoorAc
import Derived.Test.YtapjdgcfakhpaaaGreatDoorFd
import Derived.Test.YtapjdgcfakhpaaaGreatDoorEg
import Derived.Test.YtapjdgcfakhpaaaGreatDoorCc
import Derived.Test.YtapjdgcfakhpaaaGreatDoorBa
import Derived.Test.YtapjdgcfakhpaaaGreatDoorShelf
import Derived.Test.YtapjdgcfakhpaaaGreatDoorPWab
import Derived.Test.YtapjdgcfakhpaaaGreatDoorFc
import Derived.Test.YtapjdgcfakhpaaaGreatDoorCa
import Derived.Test.YtapjdgcfakhpaaaGreatDoorFf
set_option linter.unusedSectionVars false
set_option linter.unusedSimpArgs false
set_option linter.unusedVariables false
set_option maxRecDepth 100000
section
namespace Go.Proofs
open Go.PW Go.KP
attribute [local simp] RV.cells RV.one PV.cells PV.solid PV.one G1 i6 L8 K7 RV.ofCells elems PV.killL
variable [GH]
theorem d1u (l:List LReport) (hl:l.length≤1048576):d8 Tryz.prog 112 [.val (.list 4 (l.map i7))] (.ret (.val (.list 1 ((a00 l).map num))) []) []:=by
 refine f6 mixed ok112 rfl (fun _=>rfl) ?_
 unfold ir112
 rw [b6]
 simp [d9,f9,j8,b8,d7,num]
 refine j7 (X:=Nat) (fun i=>⟨t6 [(0,.val (.list 4 (l.map i7))),(3,.own 5),(4,.val (num i))],u1 [(5,.row 3 1 ((a00 (l.take i)).map num))]⟩) (fun i=>i≤l.length) (fun i=>l.length - i) 0 (Le.mk _ _ ?_ ?_) (Nat.zero_le _) ?_
 · simp [num,PV.kill]
 · simp [a00]
 · intro i hi
   simp [num]
   refine f7 (fun h1=>?_) (fun h1=>?_)
   · obtain ⟨r,hr⟩:∃ r,l[i]=r:=⟨_,rfl⟩
     have hst:a00 (l.take (i+1))=a00 (l.take i)++[r.id]:=by unfold a00;rw [List.take_add_one,List.getElem?_eq_getElem h1,List.map_append,hr];rfl
     have hln:(a00 (l.take i)).length=i:=by unfold a00;simp;omega
     simp [num,h1,hr,i7]
     refine ⟨by omega,by omega,?_⟩
     refine LoopNext.mk (i+1) h1 (by omega) (Le.mk _ _ ?_ ?_)
     · simp [num];exact wrap_i64 (by omega) (by omega)
     · simp [hst,num]
   · have e:i=l.length:=by omega
     subst e
     simp [num,Z3,PV.pl]
def nSt (p:LPipe) (k:Nat) (o:List Int):St:=⟨t6 [(1,.ptr 1 0),(3,.val (.list 1 (o.map num))),(4,.val (num k))],u1 [(1,V9 p)]⟩
def nSt2 (p:LPipe) (k:Nat) (o ids:List Int) (i:Nat):St:=⟨t6 [(1,.ptr 1 0),(3,.val (.list 1 (o.map num))),(4,.val (num k)),(5,.val (.list 1 (ids.map num))),(6,.val (num i))],u1 [(1,V9 p)]⟩
def nSt3 (p:LPipe) (k:Nat) (o ids:List Int) (i n:Nat):St:=⟨t6 [(1,.ptr 1 0),(3,.val (.list 1 (o.map num))),(4,.val (num k)),(5,.val (.list 1 (ids.map num))),(6,.val (num i)),(7,.val (num n))],u1 [(1,V9 p)]⟩
theorem d1t (p:LPipe) (hb:a1c 1048576 p) (hq:∀ c∈p.channels,c.queue.items.length≤5) (hc:p.channels.length≤5):d8 Tryz.prog 60 [.val (L4 p)] (.ret (.val (.list 1 ((b1d p.channels).map num))) []) []:=by
 refine f6 mixed ok60 rfl (fun _=>rfl) ?_
 unfold ir60
 rw [b6]
 have hlen:∀ k,k≤p.channels.length→(b1d (p.channels.take k)).length≤5*k:=by
  intro k
  induction k with
  | zero=>intro _;simp [b1d]
  | succ k ih=>
   intro h
   have:=ih (by omega)
   rw [b7u _ _ (by omega),(a6x _ _).length_eq,List.length_append]
   have h2:=hq p.channels[k] (List.getElem_mem (by omega))
   unfold a00
   rw [List.length_map]
   omega
 simp [d9,f9,j8,b8,d7,L4,tx,num]
 refine j7 (X:=Nat) (fun k=>nSt p k (b1d (p.channels.take k))) (fun k=>k≤p.channels.length) (fun k=>p.channels.length - k) 0 (((Le.freeze _ (fun _=>true)).trans (Le.plain _)).trans (Le.mk _ _ ?_ ?_)) (Nat.zero_le _) ?_
 · simp [St.freeze,PV.frz,PV.pl,Z3,num,PV.kill,b1d]
 · simp [St.freeze,MObj.pl,PV.frz,PV.frzL,PV.plL,PV.pl,Z3,V9,tx,num,MObj.kill,PV.kill]
 · intro k hk
   simp [num,V9,tx,nSt]
   refine f7 (fun h1=>?_) (fun h1=>?_)
   · obtain ⟨c,hce⟩:∃ c,p.channels[k]=c:=⟨_,rfl⟩
     have hbc:Q8 1048576 c:=by rw [← hce];exact hb.1.2 _ (List.getElem_mem h1)
     have hst:=b7u p.channels k h1
     have hcq:c.queue.items.length≤5:=by rw [← hce];exact hq _ (List.getElem_mem h1)
     have hl0:=hlen k hk
     rw [hce] at hst
     simp [num,h1,hce,j5,tx]
     refine b7 rfl rfl (.inl rfl) (d1u c.queue.items (by omega)) ?_
     obtain ⟨ids,hids⟩:∃ l,a00 c.queue.items=l:=⟨_,rfl⟩
     have hil:ids.length≤5:=by rw [← hids];unfold a00;simpa using hcq
     rw [hids] at hst ⊢
     obtain ⟨o0,ho0⟩:∃ l,b1d (p.channels.take k)=l:=⟨_,rfl⟩
     rw [ho0] at hst hl0 ⊢
     have hfl:∀ i,i≤ids.length→((ids.take i).foldl a6y o0).length=o0.length+i:=fun i hi=>by
      rw [(a6x _ _).length_eq,List.length_append,List.length_take];omega
     simp [num]
     refine j7 (X:=Nat) (fun i=>nSt2 p k ((ids.take i).foldl a6y o0) ids i) (fun i=>i≤ids.length) (fun i=>ids.length - i) 0 (Le.mk _ _ ?_ ?_) (Nat.zero_le _) ?_
     · simp [num]
     · simp [V9,tx,num]
     · intro i hi
       have hfi:=hfl i hi
       have hsti:i < ids.length→((ids.take (i+1)).foldl a6y o0)=a6y ((ids.take i).foldl a6y o0) (ids.getD i 0):=fun h=>by
        rw [List.take_add_one,List.getElem?_eq_getElem h,List.foldl_append]
        simp [List.getD_eq_getElem?_getD,List.getElem?_eq_getElem h]
       obtain ⟨o,hoe⟩:∃ l,(ids.take i).foldl a6y o0=l:=⟨_,rfl⟩
       rw [hoe] at hfi hsti ⊢
       simp [num,nSt2]
       refine f7 (fun h2=>?_) (fun h2=>?_)
       · simp [num]
         obtain ⟨x,hx⟩:∃ x,ids.getD i 0=x:=⟨_,rfl⟩
         have hx':ids[i]=x:=by rw [← hx];simp [List.getD_eq_getElem?_getD,List.getElem?_eq_getElem h2]
         have hsti:=hsti h2
         rw [hx] at hsti
         refine j7 (X:=Nat) (fun n=>nSt3 p k o ids i n) (fun n=>n≤o.length∧a6z o x n=a6z o x o.length) (fun n=>n) o.length (Le.mk _ _ ?_ ?_) ⟨Nat.le_refl _,rfl⟩ ?_
         · simp [num]
         · simp [V9,tx,num]
         · rintro n ⟨hn,hpos⟩
           by_cases hn0:n=0
           · subst hn0
             have hp0:a6z o x o.length=0:=by rw [← hpos];rfl
             simp [num,nSt3,h2,hx']
             refine ⟨?_,by omega,by omega,?_⟩
             · intro y hy u hu
               obtain ⟨z,_,rfl⟩:=List.mem_map.1 (List.mem_of_mem_take hy)
               simp [num] at hu
               subst hu;rfl
             refine LoopNext.mk (i+1) h2 (by omega) (((Le.freeze _ (fun _=>true)).trans (Le.plain _)).trans (Le.mk _ _ ?_ ?_))
             · simp [num,St.freeze,PV.frz,PV.pl,Z3,hsti,a6y,hp0,PV.kill]
               exact ⟨by rw [← List.length_map (f:=num),List.take_length],wrap_i64 (by omega) (by omega)⟩
             · simp [V9,tx,num,St.freeze,MObj.pl,PV.frz,PV.frzL,PV.plL,PV.pl,Z3,MObj.kill,PV.kill]
           · obtain ⟨m,rfl⟩:∃ m,n=m+1:=⟨n - 1,by omega⟩
             have hm:m < o.length:=by omega
             have w1:IntKind.i64.wrap (((m+1:Nat):Int) - 1)=(m:Int):=by rw [wrap_i64 (by omega) (by omega)];omega
             have w2:IntKind.i64.wrap ((m:Int)+1 - 1)=(m:Int):=by rw [wrap_i64 (by omega) (by omega)];omega
             have hpos':(0:Int) < (m:Int)+1:=by omega
             have hom:o[m]=o.getD m 0:=by simp [List.getD_eq_getElem?_getD,List.getElem?_eq_getElem hm]
             have w3:IntKind.i64.wrap (m:Int)=(m:Int):=wrap_i64 (by omega) (by omega)
             have hsuc:a6z o x (m+1)=if x < o.getD m 0 then a6z o x m else m+1:=rfl
             rw [hsuc] at hpos
             by_cases hlt:x < o.getD m 0
             · rw [if_pos hlt] at hpos
               rw [← hom] at hlt
               simp [num,nSt3,w1,w2,w3,hpos',hm,h2,hx',hlt]
               refine LoopNext.mk m ⟨by omega,hpos⟩ (by omega) (Le.mk _ _ ?_ ?_)
               · simp [num,w2,w3]
               · simp [V9,tx,num]
             · rw [if_neg hlt] at hpos
               rw [← hom] at hlt
               simp [num,nSt3,w1,w2,w3,hpos',hm,h2,hx',hlt]
               refine ⟨by omega,by omega,by omega,by omega,⟨⟨by omega,by omega⟩,by omega,by omega⟩,?_,?_⟩
               · intro y hy u hu
                 obtain ⟨z,_,rfl⟩:=List.mem_map.1 (List.mem_of_mem_take hy)
                 simp [num] at hu
                 subst hu;rfl
               refine ⟨by omega,by omega,⟨by omega,by omega⟩,by omega,by omega,⟨by omega,by omega⟩,?_,by omega,by omega,?_⟩
               · intro y hy u hu
                 obtain ⟨z,_,rfl⟩:=List.mem_map.1 (List.mem_of_mem_take (List.mem_of_mem_drop hy))
                 simp [num] at hu
                 subst hu;rfl
               have htk:List.take o.length (List.map num o)=List.map num o:=by rw [← List.length_map (f:=num),List.take_length]
               refine LoopNext.mk (i+1) h2 (by omega) (((Le.freeze _ (fun _=>true)).trans (Le.plain _)).trans (Le.mk _ _ ?_ ?_))
               · simp [num,St.freeze,PV.frz,PV.pl,Z3,hsti,a6y,← hpos,PV.kill,htk]
                 exact wrap_i64 (by omega) (by omega)
               · simp [V9,tx,num,St.freeze,MObj.pl,PV.frz,PV.frzL,PV.plL,PV.pl,Z3,MObj.kill,PV.kill]
       · have e:i=ids.length:=by omega
         subst e
         rw [List.take_length] at hoe
         simp [num]
         refine LoopNext.mk (k+1) h1 (by omega) (Le.mk _ _ ?_ ?_)
         · simp [num,hst,hoe];exact wrap_i64 (by omega) (by omega)
         · simp [V9,tx,num]
   · have e:k=p.channels.length:=by omega
     subst e
     simp [num,Z3,PV.pl]
end Go.Proofs
end
section
namespace Go.Proofs
open Go.PW Go.KP Go.Sort
variable [GH]
def srt (zs:List Int):List Int:=zs.mergeSort fun x y=>decide (x≤y)
theorem a5i (zs:List Int):(srt zs).length=zs.length:=List.length_mergeSort zs
def b63 (E:Nat) (zs:List Int) (_:Nat):MObj:=.row E 1 (zs.map num)
theorem b5j {n:Nat} {O:Nat→MObj} {i:Nat} (h:(a1o n O i).live=true):900≤i∧i < 900+n:=by
 unfold a1o at h
 split at h
 · assumption
 · cases h
theorem c32 (zs:List Int) (hl:zs.length≤1048576):Q9 Tryz.prog 120 [.own 900] (a1o 1 (b63 3 zs)) (a5p 1) .undef (a1o 1 (b63 3 (srt zs))):=by
 intro L w vs γ hL hOwn hgl hgb hvl hargs hmem
 have h900:∀ O:Nat→MObj,a1o 1 O 900=O 0:=fun O=>by simp [a1o]
 obtain ⟨v,rfl⟩:∃ v,vs=[v]:=by
  cases vs with
  | nil=>simp at hvl
  | cons v vs=>cases vs with
   | nil=>exact ⟨v,rfl⟩
   | cons _ _=>simp at hvl
 have hv:v=γ 900:=by
  have:=hargs 0 (by simp)
  simp at this
  cases this with
  | own _ _ h=>exact h
 obtain ⟨us,h1,_,h3,h4⟩:=hmem.row 900 3 1 (zs.map num) (by rw [h900];rfl)
 rw [List.length_map] at h1
 rcases h1.2 with ⟨hnil,h0⟩ | ⟨g,cap,cur,hs,hok,hh,hcap,hmax,hcs,htk⟩
 · have:zs=[]:=List.eq_nil_of_length_eq_zero h0
   subst this
   rw [hv,hnil]
   refine (Tryz.slices_Sort_int_none none 0 w).mono fun e w' hp=>?_
   obtain ⟨rfl,rfl⟩:=hp
   have h0:srt []=[]:=by unfold srt;simp
   rw [h0]
   exact ⟨⟨rfl,rfl,rfl,Nat.le_refl _,fun _ _ _=>rfl⟩,_,γ,rfl,fun _ _=>rfl,.undef _,hmem⟩
 · have hul:us.length=zs.length:=by have:=h1.1;simpa using this
   have hsz:cur.size=cap:=by simpa using hcs
   have hval:∀ j,j < zs.length→us.getD j undef=.int .i64 (zs.getD j 0):=fun j hj=>by
    have:=h3.2 j 0 (by simpa using hj) (by omega)
    have e:((zs.map num).getD j .nilptr)=num (zs.getD j 0):=by simp [List.getD_eq_getElem?_getD,List.getElem?_eq_getElem hj]
    rw [e] at this
    have key:∀ (L:Nat→Prop) (w:World) (z:Int) (u:Value),RepR L w (.int .i64 z) u→u=.int .i64 z:=fun L w z u h=>by cases h;rfl
    have:=key _ _ _ _ this
    rwa [Nat.mul_one,Nat.add_zero] at this
   have hcur:∀ j,j < zs.length→cur[j]?=some (.int .i64 (zs.getD j 0)):=fun j hj=>by
    have e:us[j]?=cur[j]?:=by
     rw [← htk,List.getElem?_take,if_pos (by omega)];simp
    rw [← e,List.getElem?_eq_getElem (by omega)]
    have:=hval j hj
    rw [List.getD_eq_getElem?_getD,List.getElem?_eq_getElem (by omega)] at this
    exact congrArg some this
   have hH:Holds (Value.int .i64) w g 0 zs.toArray:=fun j hj=>by
    have hj':j < zs.length:=by simpa using hj
    refine ⟨?_,?_⟩
    · simp only [World.cell?,hh,Nat.zero_add]
      rw [hcur j hj']
      simp [hj',List.getD_eq_getElem?_getD,List.getElem?_eq_getElem hj']
    · simp [World.frozen?,hh]
   rw [hv,hs]
   refine (Tryz.slices_Sort_int g 0 cap zs w hH (Array.getElem?_eq_some_iff.1 hh).1 (by omega)).mono fun e w' hp=>?_
   obtain ⟨rfl,n,os,rfl⟩:=hp
   have hgs:g < w.heap.size:=(Array.getElem?_eq_some_iff.1 hh).1
   have hheap:∀ k,k < w.heap.size→(grow (putRow (Value.int .i64) (Sort.ahead w n) g 0 (zs.mergeSort fun x y=>decide (x≤y)).toArray) os).heap[k]?=if k=g then some (.cells (putCells (Value.int .i64) 0 (srt zs).toArray cur) 3 (0,0)) else w.heap[k]?:=fun k hk=>by
    simp only [grow,putRow,mapBlock,Sort.ahead]
    rw [Array.getElem?_append_left (by simpa using hk),Array.getElem?_modify]
    by_cases hkg:g=k
    · subst hkg
      rw [if_pos rfl,if_pos rfl,hh];rfl
    · rw [if_neg hkg,if_neg (fun h=>hkg h.symm)]
   have hown:c25 γ (a1o 1 (b63 3 zs)) g:=⟨900,by rw [h900];rfl,by rw [hs];rfl⟩
   have hpc:∀ j,j < zs.length→(putCells (Value.int .i64) 0 (srt zs).toArray cur)[j]?=some (.int .i64 ((srt zs).getD j 0)):=fun j hj=>by
    have hj2:j < (srt zs).length:=by rw [a5i];exact hj
    have hjc:j < cur.size:=by omega
    simp only [putCells,Array.getElem?_mapIdx,Array.getElem?_eq_getElem hjc,Option.map_some]
    rw [if_pos ⟨by omega,by simpa using hj2⟩]
    simp [hj2,List.getD_eq_getElem?_getD,List.getElem?_eq_getElem hj2]
   refine ⟨⟨rfl,rfl,rfl,?_,fun k hk hx=>?_⟩,_,γ,rfl,fun _ _=>rfl,.undef _,MemInv.of_obj (fun id=>?_) (fun id id' b q1 q2 _ _=>?_)⟩
   · simp only [grow,Array.size_append,size_putRow,heap_ahead];omega
   · rw [hheap k hk,if_neg]
     rintro rfl
     exact hx hown
   · by_cases hid:id=900
     · subst hid
       rw [h900]
       show ∃ us,_
       refine ⟨(srt zs).map fun z=>Value.int .i64 z,⟨by simp,.inr ⟨g,cap,putCells (Value.int .i64) 0 (srt zs).toArray cur,?_,hok,?_,?_,hmax,?_,?_⟩⟩,by omega,⟨fun x hx=>?_,fun i k hi hk=>?_⟩,fun u hu=>?_⟩
       · rw [hs];simp [a5i]
       · rw [hheap g hgs,if_pos rfl]
       · simp [a5i];omega
       · simp [putCells,hsz]
       · apply List.ext_getElem?
         intro j
         rw [List.getElem?_take]
         by_cases hj:j < zs.length
         · rw [if_pos (by simp [a5i];omega),Array.getElem?_toList,hpc j hj,List.getElem?_map,List.getElem?_eq_getElem (by rw [a5i];exact hj)]
           simp [List.getD_eq_getElem?_getD,List.getElem?_eq_getElem (show j < (srt zs).length by rw [a5i];exact hj)]
         · rw [if_neg (by simp [a5i];omega),List.getElem?_eq_none (by simp [a5i];omega)]
       · obtain ⟨z,_,rfl⟩:=List.mem_map.1 hx
         rfl
       · have hk0:k=0:=by omega
         subst hk0
         have hi':i < (srt zs).length:=by simpa using hi
         have e1:(((srt zs).map num).getD i .nilptr)=num ((srt zs).getD i 0):=by simp [List.getD_eq_getElem?_getD,List.getElem?_eq_getElem hi']
         have e2:(((srt zs).map fun z=>Value.int .i64 z).getD (i*1+0) undef)=Value.int .i64 ((srt zs).getD i 0):=by simp [List.getD_eq_getElem?_getD,List.getElem?_eq_getElem hi']
         rw [e1,e2]
         exact .int _ _
       · obtain ⟨z,_,rfl⟩:=List.mem_map.1 hu
         rfl
     · have:a1o 1 (b63 3 (srt zs)) id=.dead:=by unfold a1o;rw [if_neg (by omega)]
       rw [this];trivial
   · have:=b5j q1
     have:=b5j q2
     omega
end Go.Proofs
end
section
namespace Go.Proofs
open Go.PW Go.KP
attribute [local simp] RV.cells RV.one PV.cells PV.solid PV.one G1 i6 L8 K7 RV.ofCells elems PV.killL
variable [GH]
def lq (cs:List LChannel):List Int:=cs.flatMap fun c=>a00 c.queue.items
theorem c6e (cs:List LChannel) (k:Nat) (h:k < cs.length):lq (cs.take (k+1))=lq (cs.take k)++a00 cs[k].queue.items:=by
 unfold lq
 rw [List.take_add_one,List.getElem?_eq_getElem h,List.flatMap_append];simp
theorem d01 (p:LPipe) (hb:a1c 1048576 p) (hq:∀ c∈p.channels,c.queue.items.length≤5) (hc:p.channels.length≤5):d8 Tryz.prog 62 [.val (L4 p)] (.ret (.own 0) [⟨3,1,(srt (a6w p)).map num⟩]) []:=by
 have hlen:∀ k,k≤p.channels.length→(lq (p.channels.take k)).length≤5*k:=by
  intro k
  induction k with
  | zero=>intro _;simp [lq]
  | succ k ih=>
   intro h
   have:=ih (by omega)
   rw [c6e _ _ (by omega),List.length_append]
   have h2:=hq p.channels[k] (List.getElem_mem (by omega))
   unfold a00
   rw [List.length_map]
   omega
 refine a69 (mk:=fun i=>.own i) mixed ok62 rfl (fun _=>rfl) ?_
 unfold ir62
 rw [b6]
 simp [d9,f9,j8,b8,d7,L4,tx,num]
 refine j7 (X:=Nat) (fun k=>⟨t6 [(3,.own 8),(10,.val (.list 6 (p.channels.map j5))),(11,.val (num p.channels.length)),(12,.val (num k))],u1 [(8,.row 3 1 ((lq (p.channels.take k)).map num))]⟩) (fun k=>k≤p.channels.length) (fun k=>p.channels.length - k) 0 (Le.mk _ _ ?_ ?_) (Nat.zero_le _) ?_
 · simp [num,PV.kill]
 · simp [lq]
 · intro k hk
   simp [num]
   refine f7 (fun h1=>?_) (fun h1=>?_)
   · obtain ⟨c,hce⟩:∃ c,p.channels[k]=c:=⟨_,rfl⟩
     have hst:=c6e p.channels k h1
     have hcq:c.queue.items.length≤5:=by rw [← hce];exact hq _ (List.getElem_mem h1)
     have hl0:=hlen k hk
     rw [hce] at hst
     obtain ⟨o,ho⟩:∃ l,lq (p.channels.take k)=l:=⟨_,rfl⟩
     rw [ho] at hst hl0 ⊢
     simp [num,h1,hce,j5,tx]
     refine j7 (X:=Nat) (fun i=>⟨t6 [(3,.own 8),(10,.val (.list 6 (p.channels.map j5))),(11,.val (num p.channels.length)),(12,.val (num k)),(18,.val (.list 4 (c.queue.items.map i7))),(19,.val (num c.queue.items.length)),(20,.val (num i))],u1 [(8,.row 3 1 ((o++a00 (c.queue.items.take i)).map num))]⟩) (fun i=>i≤c.queue.items.length) (fun i=>c.queue.items.length - i) 0 (Le.mk _ _ ?_ ?_) (Nat.zero_le _) ?_
     · simp [num,PV.kill]
     · simp [a00]
     · intro i hi
       simp [num]
       refine f7 (fun h2=>?_) (fun h2=>?_)
       · obtain ⟨r,hr⟩:∃ r,c.queue.items[i]=r:=⟨_,rfl⟩
         have hs2:a00 (c.queue.items.take (i+1))=a00 (c.queue.items.take i)++[r.id]:=by unfold a00;rw [List.take_add_one,List.getElem?_eq_getElem h2,List.map_append,hr];rfl
         have hln:(a00 (c.queue.items.take i)).length=i:=by unfold a00;simp;omega
         simp [num,h2,hr,i7,tx]
         refine ⟨by omega,by omega,?_⟩
         refine LoopNext.mk (i+1) h2 (by omega) (Le.mk _ _ ?_ ?_)
         · simp [num,PV.kill];exact wrap_i64 (by omega) (by omega)
         · simp [hs2,num]
       · have e:i=c.queue.items.length:=by omega
         subst e
         rw [List.take_length]
         simp [num]
         refine LoopNext.mk (k+1) h1 (by omega) (Le.mk _ _ ?_ ?_)
         · simp [num,PV.kill];exact wrap_i64 (by omega) (by omega)
         · simp [hst]
   · have e:k=p.channels.length:=by omega
     subst e
     rw [List.take_length]
     simp [num]
     have hl9:=hlen p.channels.length (Nat.le_refl _)
     rw [List.take_length] at hl9
     refine d1s [8] (b63 3 (lq p.channels)) (b63 3 (srt (lq p.channels))) (b63 3 (lq p.channels)) (b63 3 (srt (lq p.channels))) (by simp) (by simp) (ps0:=[.own 900]) rfl (fun j hj=>?_) (fun j hj=>rfl) (fun j hj=>rfl) (fun j hj=>rfl) (fun j hj _=>rfl) (fun j cs hj h=>by cases h) (c32 (lq p.channels) (by omega)) ?_
     · have:j=0:=by simp at hj;omega
       subst this
       simp [b63,num]
     · simp [num,b63,b40,c8q,PV.kill,lq,a6w]
end Go.Proofs
end
section
namespace Go.Proofs
open Go.PW Go.KP
variable [GF]
end Go.Proofs
end
section
namespace Go.Proofs
open Go.PW Go.KP
variable [GH]
theorem ok_channels {p:LPipe} (h:O7 p=true):(∀ c∈p.channels,c.queue.items.length≤5)∧p.channels.length≤5:=by
 unfold O7 at h
 simp only [Bool.and_eq_true,decide_eq_true_eq] at h
 refine ⟨fun c hc=>?_,h.1.1.1.1.1.1⟩
 obtain ⟨i,hi,rfl⟩:=List.mem_iff_getElem.1 hc
 have h3:=allN_at h.2.1.1 i hi
 rw [b2i hi] at h3
 unfold R2 S8 at h3
 simp only [Bool.and_eq_true,decide_eq_true_eq] at h3
 exact h3.2.1.2.1.1
theorem lq_len (cs:List LChannel) (hq:∀ c∈cs,c.queue.items.length≤5):(lq cs).length≤5*cs.length:=by
 induction cs with
 | nil=>simp [lq]
 | cons c cs ih=>
  have h1:=ih (fun d hd=>hq d (List.mem_cons_of_mem _ hd))
  have h2:=hq c (List.mem_cons_self ..)
  have:lq (c :: cs)=a00 c.queue.items++lq cs:=by simp [lq]
  rw [this,List.length_append]
  unfold a00
  simp only [List.length_map,List.length_cons]
  omega
end Go.Proofs
end
