/- Eq: merged out of KJw. -/
import Derived.Test.YtgdapgcjmfeocaaGreatDoorEp
import Derived.Test.YtgdapgcjmfeocaaGreatDoorPWac
set_option linter.unusedSectionVars false
set_option linter.unusedSimpArgs false
set_option linter.unusedVariables false
set_option maxRecDepth 100000
section
namespace Go.Proofs
open Go.PW Go.KP
attribute [local simp] RV.cells RV.one PV.cells PV.solid PV.one im ao kh ke RV.ofCells elems PV.killL
variable [GH]
def Of (x:Nat×(MKey→Option (PV×Nat))) (e:LEntry):Nat×(MKey→Option (PV×Nat)):=match x.2 (.i e.id) with
 | some q=>(x.1,u0 x.2 (.i e.id) (.val (num e.kind)) q.2)
 | none=>(x.1+1,u0 x.2 (.i e.id) (.val (num e.kind)) x.1)
def xr (l:List LEntry):Nat×(MKey→Option (PV×Nat)):=l.foldl Of (0,fun _=>none)
theorem Jx (l:List LEntry) (i:Nat) (h:i < l.length):xr (l.take (i+1))=Of (xr (l.take i)) l[i]:=by
 unfold xr
 rw [List.take_add_one,List.getElem?_eq_getElem h,List.foldl_append];rfl
def xq (l:List LEntry):MObj:=.map false (xr l).1 (xr l).2
theorem Oh (l:List LEntry):∀ k,(xr l).2 k=none∨∃ r b,(xr l).2 k=some (.val r,b):=by
 suffices h:∀ (l:List LEntry) (x:Nat×(MKey→Option (PV×Nat))),(∀ k,x.2 k=none∨∃ r b,x.2 k=some (.val r,b))→∀ k,(l.foldl Of x).2 k=none∨∃ r b,(l.foldl Of x).2 k=some (.val r,b) from h l _ fun _=>.inl rfl
 intro l
 induction l with
 | nil=>exact fun x h=>h
 | cons e l ih=>
  intro x h
  refine ih _ fun k=>?_
  unfold Of
  split<;>(simp only [u0];split)
  · exact .inr ⟨_,_,rfl⟩
  · exact h k
  · exact .inr ⟨_,_,rfl⟩
  · exact h k
theorem Og (l:List LEntry) (ι:Nat→Nat):(xq l).ren ι=xq l:=by
 have:(fun k=>((xr l).2 k).map fun p=>(p.1.ren ι,p.2))=(xr l).2:=by
  funext k
  rcases Oh l k with h | ⟨r,b,h⟩<;>rw [h]<;>rfl
 simp only [xq,MObj.ren,this]
theorem A1 (l:List LEntry) (f:Nat→Bool):(fun k=>((xr l).2 k).map fun p=>(p.1.kill f,p.2))=(xr l).2:=by
 funext k
 rcases Oh l k with h | ⟨r,b,h⟩<;>rw [h]<;>rfl
theorem i_fates (p:LPipe) (hb:pi 1048576 p):mg Tryz.prog 42 [.val (ik p)] (fun _=>.dead) (fun _=>false) (.own 0) (fun i=>if i=0 then xq p.log else .dead):=by
 have hll:p.log.length≤1048576:=hb.2.2.1
 refine ou mixed ok42 (fun i h=>by cases h) (fun i h=>by cases h) ?_
 unfold ir42
 rw [aa]
 simp [ik,tx,num]
 refine ay (X:=Nat) (fun i=>⟨co [(3,.own 6),(8,.val (.list 3 (p.log.map eo))),(9,.val (num p.log.length)),(10,.val (num i))],cu [(6,xq (p.log.take i))]⟩) (fun i=>i≤p.log.length) (fun i=>p.log.length - i) 0 (Le.mk _ _ ?_ ?_) ?_ ?_
 · simp [num,PV.kill]
 · simp [xq,xr]
 · simp
 · intro i hi
   simp [num]
   refine ak (fun h1=>?_) (fun h1=>?_)
   · obtain ⟨e,he⟩:∃ e,p.log[i]=e:=⟨_,rfl⟩
     have wi:IntKind.i64.wrap ((i:Int)+1)=((i+1:Nat):Int):=by rw [wrap_i64 (by omega) (by omega)];omega
     have hst:=Jx p.log i h1
     rw [he] at hst
     have hk:=A1 (p.log.take i) (fun x=>x == 5)
     simp [num,h1,he,eo,xq,PV.kill,MObj.kill,hk]
     cases hq:(xr (p.log.take i)).2 (.i e.id) with
     | none=>
      simp [num]
      refine LoopNext.mk (i+1) h1 (by omega) (Le.mk _ _ ?_ ?_)
      · simp [num,wi]
      · simp [xq,hst,Of,hq,num]
     | some q=>
      simp [num]
      refine LoopNext.mk (i+1) h1 (by omega) (Le.mk _ _ ?_ ?_)
      · simp [num,wi]
      · simp [xq,hst,Of,hq,num]
   · have e:i=p.log.length:=by omega
     subst e
     simp [num]
     have h0:∀ i,(if i=0 then xq p.log else MObj.dead).live=true→i=0:=fun i h=>by
      by_cases hi:i=0
      · exact hi
      · rw [if_neg hi] at h;cases h
     refine ⟨_,Le.refl _,fun i=>if i=0 then 6 else i,rfl,fun i j h1 h2 _=>by rw [h0 i h1,h0 j h2],fun j hj=>?_,fun j hj=>?_,fun j hj=>by cases hj⟩
     · rw [h0 j hj]
       simp [Og]
     · rw [h0 j hj];exact .inr rfl
def xc (l:List LEntry) (n:Int):Option Int:=(l.reverse.find? fun e=>decide (e.id=n)).map fun e=>e.kind
theorem Hb (l:List LEntry) (e:LEntry) (n:Int):xc (l++[e]) n=if e.id=n then some e.kind else xc l n:=by
 unfold xc
 rw [List.reverse_append,List.reverse_cons,List.reverse_nil,List.nil_append,List.singleton_append,List.find?_cons]
 by_cases h:e.id=n
 · rw [decide_eq_true h,if_pos h];rfl
 · rw [decide_eq_false h,if_neg h]
theorem Jy (l:List LEntry) (n:Int):∀ i,i≤l.length→((xr (l.take i)).2 (.i n)=none∧xc (l.take i) n=none)∨∃ b k,(xr (l.take i)).2 (.i n)=some (.val (num k),b)∧xc (l.take i) n=some k
 | 0,_=>.inl ⟨rfl,rfl⟩
 | i+1,h=>by
  have ih:=Jy l n i (by omega)
  have htk:l.take (i+1)=l.take i++[l[i]]:=by rw [List.take_add_one,List.getElem?_eq_getElem (by omega)];rfl
  have e1:∀ b,u0 (xr (l.take i)).2 (.i l[i].id) (.val (num l[i].kind)) b (.i n)=if l[i].id=n then some (.val (num l[i].kind),b) else (xr (l.take i)).2 (.i n):=fun b=>by
   unfold u0
   by_cases hn:l[i].id=n
   · rw [if_pos hn,if_pos (by rw [hn])]
   · rw [if_neg hn,if_neg (fun h=>hn (by cases h;rfl))]
  have e2:∃ b,(xr (l.take (i+1))).2 (.i n)=if l[i].id=n then some (.val (num l[i].kind),b) else (xr (l.take i)).2 (.i n):=by
   rw [Jx l i (by omega)]
   unfold Of
   split
   · exact ⟨_,e1 _⟩
   · exact ⟨_,e1 _⟩
  obtain ⟨b,e2⟩:=e2
  rw [e2,htk,Hb]
  by_cases hn:l[i].id=n
  · rw [if_pos hn,if_pos hn];exact .inr ⟨b,_,rfl,rfl⟩
  · rw [if_neg hn,if_neg hn];exact ih
theorem U3 (p:LPipe) (id:Int) (hb:pi 1048576 p):ag Tryz.prog 36 [.val (ik p),.val (num id)] (.ret (.val (num ((xc p.log id).getD 0))) []) []:=by
 have hll:p.log.length≤1048576:=hb.2.2.1
 refine aj mixed ok36 rfl (fun _=>rfl) ?_
 unfold ir36
 rw [aa]
 obtain ⟨r,hr⟩:∃ r,xc p.log id=r:=⟨_,rfl⟩
 rw [hr]
 have w0:IntKind.i64.wrap ((p.log.length:Int) - 1)=(p.log.length:Int) - 1:=wrap_i64 (by omega) (by omega)
 simp [ah,am,ax,ac,af,ik,tx,num,w0]
 refine ay (X:=Nat) (fun j=>⟨co [(1,.val (num id)),(2,.ptr 2 0),(5,.val (num ((j:Int) - 1)))],cu [(2,nu p)]⟩) (fun j=>j≤p.log.length∧xc (p.log.take j) id=r) (fun j=>j) p.log.length (Le.mk _ _ ?_ ?_) ?_ ?_
 · simp [num,PV.kill]
 · simp [nu,tx,num,MObj.kill,PV.kill]
 · exact ⟨Nat.le_refl _,by rw [List.take_length];exact hr⟩
 · rintro j ⟨hj,hrr⟩
   simp [num]
   refine ak (fun h1=>?_) (fun h1=>?_)
   · obtain ⟨t,rfl⟩:∃ t,j=t+1:=⟨j - 1,by omega⟩
     have ht:t < p.log.length:=by omega
     obtain ⟨e,he⟩:∃ e,p.log[t]=e:=⟨_,rfl⟩
     have htk:p.log.take (t+1)=p.log.take t++[e]:=by rw [List.take_add_one,List.getElem?_eq_getElem ht,he];rfl
     rw [htk,Hb] at hrr
     have ej:((t+1:Nat):Int) - 1=(t:Int):=by omega
     have wj:IntKind.i64.wrap ((t:Int) - 1)=(t:Int) - 1:=wrap_i64 (by omega) (by omega)
     rw [Int.natCast_add] at *
     simp only [Int.natCast_one,Int.add_sub_cancel] at *
     by_cases hid:e.id=id
     · rw [if_pos hid] at hrr
       subst hrr
       simp [num,nu,tx,ht,he,eo,hid]
     · rw [if_neg hid] at hrr
       simp [num,nu,tx,ht,he,eo,hid]
       refine LoopNext.mk t ⟨by omega,hrr⟩ (by omega) (Le.mk _ _ ?_ ?_)
       · simp [num,wj]
       · simp [nu,num,tx]
   · obtain rfl:j=0:=by omega
     have:r=none:=by rw [← hrr];rfl
     subst this
     simp [num]
end Go.Proofs
end
