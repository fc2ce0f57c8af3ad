/- Ep: merged out of KJu, KJw. -/
import Derived.Test.YtgdapgcjmfeocaaGreatDoorEh
import Derived.Test.YtgdapgcjmfeocaaGreatDoorAc
import Derived.Test.YtgdapgcjmfeocaaGreatDoorBa
import Derived.Test.YtgdapgcjmfeocaaGreatDoorPWac
set_option linter.unusedSectionVars false
set_option linter.unusedSimpArgs false
set_option linter.unusedVariables false
set_option maxRecDepth 100000
section
namespace Go.Proofs
open Go.PW Go.KP
variable [GH]
end Go.Proofs
end
section
namespace Go.Proofs
open Go.PW Go.KP
attribute [local simp] RV.cells RV.one PV.cells PV.solid PV.one t8 f9 H0 A5 RV.ofCells elems PV.killL
variable [GH]
def b8y (x:Nat×(MKey→Option (PV×Nat))) (e:LEntry):Nat×(MKey→Option (PV×Nat)):=match x.2 (.i e.id) with
 | some q=>(x.1,a0o x.2 (.i e.id) (.val (num e.kind)) q.2)
 | none=>(x.1+1,a0o x.2 (.i e.id) (.val (num e.kind)) x.1)
def a4q (l:List LEntry):Nat×(MKey→Option (PV×Nat)):=l.foldl b8y (0,fun _=>none)
theorem b41 (l:List LEntry) (i:Nat) (h:i < l.length):a4q (l.take (i+1))=b8y (a4q (l.take i)) l[i]:=by
 unfold a4q
 rw [List.take_add_one,List.getElem?_eq_getElem h,List.foldl_append];rfl
def a4p (l:List LEntry):MObj:=.map false (a4q l).1 (a4q l).2
theorem b80 (l:List LEntry):∀ k,(a4q l).2 k=none∨∃ r b,(a4q l).2 k=some (.val r,b):=by
 suffices h:∀ (l:List LEntry) (x:Nat×(MKey→Option (PV×Nat))),(∀ k,x.2 k=none∨∃ r b,x.2 k=some (.val r,b))→∀ k,(l.foldl b8y x).2 k=none∨∃ r b,(l.foldl b8y x).2 k=some (.val r,b) from h l _ fun _=>.inl rfl
 intro l
 induction l with
 | nil=>exact fun x h=>h
 | cons e l ih=>
  intro x h
  refine ih _ fun k=>?_
  unfold b8y
  split<;>(simp only [a0o];split)
  · exact .inr ⟨_,_,rfl⟩
  · exact h k
  · exact .inr ⟨_,_,rfl⟩
  · exact h k
theorem b8z (l:List LEntry) (ι:Nat→Nat):(a4p l).ren ι=a4p l:=by
 have:(fun k=>((a4q l).2 k).map fun p=>(p.1.ren ι,p.2))=(a4q l).2:=by
  funext k
  rcases b80 l k with h | ⟨r,b,h⟩<;>rw [h]<;>rfl
 simp only [a4p,MObj.ren,this]
theorem a7a (l:List LEntry) (f:Nat→Bool):(fun k=>((a4q l).2 k).map fun p=>(p.1.kill f,p.2))=(a4q l).2:=by
 funext k
 rcases b80 l k with h | ⟨r,b,h⟩<;>rw [h]<;>rfl
theorem i_fates (p:LPipe) (hb:V6 1048576 p):a7e Tryz.prog 42 [.val (u0 p)] (fun _=>.dead) (fun _=>false) (.own 0) (fun i=>if i=0 then a4p p.log else .dead):=by
 have hll:p.log.length≤1048576:=hb.2.2.1
 refine c8e mixed ok42 (fun i h=>by cases h) (fun i h=>by cases h) ?_
 unfold ir42
 rw [b7]
 simp [u0,tx,num]
 refine j7 (X:=Nat) (fun i=>⟨l8 [(3,.own 6),(8,.val (.list 3 (p.log.map u1))),(9,.val (num p.log.length)),(10,.val (num i))],l9 [(6,a4p (p.log.take i))]⟩) (fun i=>i≤p.log.length) (fun i=>p.log.length - i) 0 (Le.mk _ _ ?_ ?_) ?_ ?_
 · simp [num,PV.kill]
 · simp [a4p,a4q]
 · simp
 · intro i hi
   simp [num]
   refine f6 (fun h1=>?_) (fun h1=>?_)
   · obtain ⟨e,he⟩:∃ e,p.log[i]=e:=⟨_,rfl⟩
     have wi:IntKind.i64.wrap ((i:Int)+1)=((i+1:Nat):Int):=by rw [wrap_i64 (by omega) (by omega)];omega
     have hst:=b41 p.log i h1
     rw [he] at hst
     have hk:=a7a (p.log.take i) (fun x=>x == 5)
     simp [num,h1,he,u1,a4p,PV.kill,MObj.kill,hk]
     cases hq:(a4q (p.log.take i)).2 (.i e.id) with
     | none=>
      simp [num]
      refine LoopNext.mk (i+1) h1 (by omega) (Le.mk _ _ ?_ ?_)
      · simp [num,wi]
      · simp [a4p,hst,b8y,hq,num]
     | some q=>
      simp [num]
      refine LoopNext.mk (i+1) h1 (by omega) (Le.mk _ _ ?_ ?_)
      · simp [num,wi]
      · simp [a4p,hst,b8y,hq,num]
   · have e:i=p.log.length:=by omega
     subst e
     simp [num]
     have h0:∀ i,(if i=0 then a4p p.log else MObj.dead).live=true→i=0:=fun i h=>by
      by_cases hi:i=0
      · exact hi
      · rw [if_neg hi] at h;cases h
     refine ⟨_,Le.refl _,fun i=>if i=0 then 6 else i,rfl,fun i j h1 h2 _=>by rw [h0 i h1,h0 j h2],fun j hj=>?_,fun j hj=>?_,fun j hj=>by cases hj⟩
     · rw [h0 j hj]
       simp [b8z]
     · rw [h0 j hj];exact .inr rfl
def a4c (l:List LEntry) (n:Int):Option Int:=(l.reverse.find? fun e=>decide (e.id=n)).map fun e=>e.kind
theorem b2t (l:List LEntry) (e:LEntry) (n:Int):a4c (l++[e]) n=if e.id=n then some e.kind else a4c l n:=by
 unfold a4c
 rw [List.reverse_append,List.reverse_cons,List.reverse_nil,List.nil_append,List.singleton_append,List.find?_cons]
 by_cases h:e.id=n
 · rw [decide_eq_true h,if_pos h];rfl
 · rw [decide_eq_false h,if_neg h]
theorem b42 (l:List LEntry) (n:Int):∀ i,i≤l.length→((a4q (l.take i)).2 (.i n)=none∧a4c (l.take i) n=none)∨∃ b k,(a4q (l.take i)).2 (.i n)=some (.val (num k),b)∧a4c (l.take i) n=some k
 | 0,_=>.inl ⟨rfl,rfl⟩
 | i+1,h=>by
  have ih:=b42 l n i (by omega)
  have htk:l.take (i+1)=l.take i++[l[i]]:=by rw [List.take_add_one,List.getElem?_eq_getElem (by omega)];rfl
  have e1:∀ b,a0o (a4q (l.take i)).2 (.i l[i].id) (.val (num l[i].kind)) b (.i n)=if l[i].id=n then some (.val (num l[i].kind),b) else (a4q (l.take i)).2 (.i n):=fun b=>by
   unfold a0o
   by_cases hn:l[i].id=n
   · rw [if_pos hn,if_pos (by rw [hn])]
   · rw [if_neg hn,if_neg (fun h=>hn (by cases h;rfl))]
  have e2:∃ b,(a4q (l.take (i+1))).2 (.i n)=if l[i].id=n then some (.val (num l[i].kind),b) else (a4q (l.take i)).2 (.i n):=by
   rw [b41 l i (by omega)]
   unfold b8y
   split
   · exact ⟨_,e1 _⟩
   · exact ⟨_,e1 _⟩
  obtain ⟨b,e2⟩:=e2
  rw [e2,htk,b2t]
  by_cases hn:l[i].id=n
  · rw [if_pos hn,if_pos hn];exact .inr ⟨b,_,rfl,rfl⟩
  · rw [if_neg hn,if_neg hn];exact ih
theorem c5n (p:LPipe) (id:Int) (hb:V6 1048576 p):d8 Tryz.prog 36 [.val (u0 p),.val (num id)] (.ret (.val (num ((a4c p.log id).getD 0))) []) []:=by
 have hll:p.log.length≤1048576:=hb.2.2.1
 refine f5 mixed ok36 rfl (fun _=>rfl) ?_
 unfold ir36
 rw [b7]
 obtain ⟨r,hr⟩:∃ r,a4c p.log id=r:=⟨_,rfl⟩
 rw [hr]
 have w0:IntKind.i64.wrap ((p.log.length:Int) - 1)=(p.log.length:Int) - 1:=wrap_i64 (by omega) (by omega)
 simp [d9,i6,j6,b8,d7,u0,tx,num,w0]
 refine j7 (X:=Nat) (fun j=>⟨l8 [(1,.val (num id)),(2,.ptr 2 0),(5,.val (num ((j:Int) - 1)))],l9 [(2,M4 p)]⟩) (fun j=>j≤p.log.length∧a4c (p.log.take j) id=r) (fun j=>j) p.log.length (Le.mk _ _ ?_ ?_) ?_ ?_
 · simp [num,PV.kill]
 · simp [M4,tx,num,MObj.kill,PV.kill]
 · exact ⟨Nat.le_refl _,by rw [List.take_length];exact hr⟩
 · rintro j ⟨hj,hrr⟩
   simp [num]
   refine f6 (fun h1=>?_) (fun h1=>?_)
   · obtain ⟨t,rfl⟩:∃ t,j=t+1:=⟨j - 1,by omega⟩
     have ht:t < p.log.length:=by omega
     obtain ⟨e,he⟩:∃ e,p.log[t]=e:=⟨_,rfl⟩
     have htk:p.log.take (t+1)=p.log.take t++[e]:=by rw [List.take_add_one,List.getElem?_eq_getElem ht,he];rfl
     rw [htk,b2t] at hrr
     have ej:((t+1:Nat):Int) - 1=(t:Int):=by omega
     have wj:IntKind.i64.wrap ((t:Int) - 1)=(t:Int) - 1:=wrap_i64 (by omega) (by omega)
     rw [Int.natCast_add] at *
     simp only [Int.natCast_one,Int.add_sub_cancel] at *
     by_cases hid:e.id=id
     · rw [if_pos hid] at hrr
       subst hrr
       simp [num,M4,tx,ht,he,u1,hid]
     · rw [if_neg hid] at hrr
       simp [num,M4,tx,ht,he,u1,hid]
       refine LoopNext.mk t ⟨by omega,hrr⟩ (by omega) (Le.mk _ _ ?_ ?_)
       · simp [num,wj]
       · simp [M4,num,tx]
   · obtain rfl:j=0:=by omega
     have:r=none:=by rw [← hrr];rfl
     subst this
     simp [num]
theorem c3c {n:Nat} {f:Nat→Bool} (h:Y4 n f=true) (i:Nat) (hi:i < n):f i=true:=by
 unfold Y4 at h
 exact List.all_eq_true.1 h i (List.mem_range.2 hi)
end Go.Proofs
end
