/- Ep: merged out of KJu, KJw. -/
import Derived.Test.YtgdapgcjmfeocaaGreatDoorEh
import Derived.Test.YtgdapgcjmfeocaaGreatDoorAc
import Derived.Test.YtgdapgcjmfeocaaGreatDoorBa
import Derived.Test.YtgdapgcjmfeocaaGreatDoorPWac
set_option linter.unusedSectionVars false
set_option linter.unusedSimpArgs false
set_option linter.unusedVariables false
set_option maxRecDepth 100000
section
namespace Go.Proofs
open Go.PW Go.KP
variable [GH]
end Go.Proofs
end
section
namespace Go.Proofs
open Go.PW Go.KP
attribute [local simp] RV.cells RV.one PV.cells PV.solid PV.one G3 i7 L8 L5 RV.ofCells elems PV.killL
variable [GH]
def c10 (x:Nat×(MKey→Option (PV×Nat))) (e:LEntry):Nat×(MKey→Option (PV×Nat)):=match x.2 (.i e.id) with
 | some q=>(x.1,a3t x.2 (.i e.id) (.val (num e.kind)) q.2)
 | none=>(x.1+1,a3t x.2 (.i e.id) (.val (num e.kind)) x.1)
def a52 (l:List LEntry):Nat×(MKey→Option (PV×Nat)):=l.foldl c10 (0,fun _=>none)
theorem b7r (l:List LEntry) (i:Nat) (h:i < l.length):a52 (l.take (i+1))=c10 (a52 (l.take i)) l[i]:=by
 unfold a52
 rw [List.take_add_one,List.getElem?_eq_getElem h,List.foldl_append];rfl
def a50 (l:List LEntry):MObj:=.map false (a52 l).1 (a52 l).2
theorem c12 (l:List LEntry):∀ k,(a52 l).2 k=none∨∃ r b,(a52 l).2 k=some (.val r,b):=by
 suffices h:∀ (l:List LEntry) (x:Nat×(MKey→Option (PV×Nat))),(∀ k,x.2 k=none∨∃ r b,x.2 k=some (.val r,b))→∀ k,(l.foldl c10 x).2 k=none∨∃ r b,(l.foldl c10 x).2 k=some (.val r,b) from h l _ fun _=>.inl rfl
 intro l
 induction l with
 | nil=>exact fun x h=>h
 | cons e l ih=>
  intro x h
  refine ih _ fun k=>?_
  unfold c10
  split<;>(simp only [a3t];split)
  · exact .inr ⟨_,_,rfl⟩
  · exact h k
  · exact .inr ⟨_,_,rfl⟩
  · exact h k
theorem c11 (l:List LEntry) (ι:Nat→Nat):(a50 l).ren ι=a50 l:=by
 have:(fun k=>((a52 l).2 k).map fun p=>(p.1.ren ι,p.2))=(a52 l).2:=by
  funext k
  rcases c12 l k with h | ⟨r,b,h⟩<;>rw [h]<;>rfl
 simp only [a50,MObj.ren,this]
theorem a88 (l:List LEntry) (f:Nat→Bool):(fun k=>((a52 l).2 k).map fun p=>(p.1.kill f,p.2))=(a52 l).2:=by
 funext k
 rcases c12 l k with h | ⟨r,b,h⟩<;>rw [h]<;>rfl
theorem i_fates (p:LPipe) (hb:Z3 1048576 p):R1 Tryz.prog 42 [.val (G1 p)] (fun _=>.dead) (fun _=>false) (.own 0) (fun i=>if i=0 then a50 p.log else .dead):=by
 have hll:p.log.length≤1048576:=hb.2.2.1
 refine X2 mixed ok42 (fun i h=>by cases h) (fun i h=>by cases h) ?_
 unfold ir42
 rw [b6]
 simp [G1,tx,num]
 refine j8 (X:=Nat) (fun i=>⟨t6 [(3,.own 6),(8,.val (.list 3 (p.log.map A1))),(9,.val (num p.log.length)),(10,.val (num i))],t8 [(6,a50 (p.log.take i))]⟩) (fun i=>i≤p.log.length) (fun i=>p.log.length - i) 0 (Le.mk _ _ ?_ ?_) ?_ ?_
 · simp [num,PV.kill]
 · simp [a50,a52]
 · simp
 · intro i hi
   simp [num]
   refine f8 (fun h1=>?_) (fun h1=>?_)
   · obtain ⟨e,he⟩:∃ e,p.log[i]=e:=⟨_,rfl⟩
     have wi:IntKind.i64.wrap ((i:Int)+1)=((i+1:Nat):Int):=by rw [wrap_i64 (by omega) (by omega)];omega
     have hst:=b7r p.log i h1
     rw [he] at hst
     have hk:=a88 (p.log.take i) (fun x=>x == 5)
     simp [num,h1,he,A1,a50,PV.kill,MObj.kill,hk]
     cases hq:(a52 (p.log.take i)).2 (.i e.id) with
     | none=>
      simp [num]
      refine LoopNext.mk (i+1) h1 (by omega) (Le.mk _ _ ?_ ?_)
      · simp [num,wi]
      · simp [a50,hst,c10,hq,num]
     | some q=>
      simp [num]
      refine LoopNext.mk (i+1) h1 (by omega) (Le.mk _ _ ?_ ?_)
      · simp [num,wi]
      · simp [a50,hst,c10,hq,num]
   · have e:i=p.log.length:=by omega
     subst e
     simp [num]
     have h0:∀ i,(if i=0 then a50 p.log else MObj.dead).live=true→i=0:=fun i h=>by
      by_cases hi:i=0
      · exact hi
      · rw [if_neg hi] at h;cases h
     refine ⟨_,Le.refl _,fun i=>if i=0 then 6 else i,rfl,fun i j h1 h2 _=>by rw [h0 i h1,h0 j h2],fun j hj=>?_,fun j hj=>?_,fun j hj=>by cases hj⟩
     · rw [h0 j hj]
       simp [c11]
     · rw [h0 j hj];exact .inr rfl
def a5m (l:List LEntry) (n:Int):Option Int:=(l.reverse.find? fun e=>decide (e.id=n)).map fun e=>e.kind
theorem b44 (l:List LEntry) (e:LEntry) (n:Int):a5m (l++[e]) n=if e.id=n then some e.kind else a5m l n:=by
 unfold a5m
 rw [List.reverse_append,List.reverse_cons,List.reverse_nil,List.nil_append,List.singleton_append,List.find?_cons]
 by_cases h:e.id=n
 · rw [decide_eq_true h,if_pos h];rfl
 · rw [decide_eq_false h,if_neg h]
theorem b7s (l:List LEntry) (n:Int):∀ i,i≤l.length→((a52 (l.take i)).2 (.i n)=none∧a5m (l.take i) n=none)∨∃ b k,(a52 (l.take i)).2 (.i n)=some (.val (num k),b)∧a5m (l.take i) n=some k
 | 0,_=>.inl ⟨rfl,rfl⟩
 | i+1,h=>by
  have ih:=b7s l n i (by omega)
  have htk:l.take (i+1)=l.take i++[l[i]]:=by rw [List.take_add_one,List.getElem?_eq_getElem (by omega)];rfl
  have e1:∀ b,a3t (a52 (l.take i)).2 (.i l[i].id) (.val (num l[i].kind)) b (.i n)=if l[i].id=n then some (.val (num l[i].kind),b) else (a52 (l.take i)).2 (.i n):=fun b=>by
   unfold a3t
   by_cases hn:l[i].id=n
   · rw [if_pos hn,if_pos (by rw [hn])]
   · rw [if_neg hn,if_neg (fun h=>hn (by cases h;rfl))]
  have e2:∃ b,(a52 (l.take (i+1))).2 (.i n)=if l[i].id=n then some (.val (num l[i].kind),b) else (a52 (l.take i)).2 (.i n):=by
   rw [b7r l i (by omega)]
   unfold c10
   split
   · exact ⟨_,e1 _⟩
   · exact ⟨_,e1 _⟩
  obtain ⟨b,e2⟩:=e2
  rw [e2,htk,b44]
  by_cases hn:l[i].id=n
  · rw [if_pos hn,if_pos hn];exact .inr ⟨b,_,rfl,rfl⟩
  · rw [if_neg hn,if_neg hn];exact ih
theorem c8s (p:LPipe) (id:Int) (hb:Z3 1048576 p):d8 Tryz.prog 36 [.val (G1 p),.val (num id)] (.ret (.val (num ((a5m p.log id).getD 0))) []) []:=by
 have hll:p.log.length≤1048576:=hb.2.2.1
 refine f6 mixed ok36 rfl (fun _=>rfl) ?_
 unfold ir36
 rw [b6]
 obtain ⟨r,hr⟩:∃ r,a5m p.log id=r:=⟨_,rfl⟩
 rw [hr]
 have w0:IntKind.i64.wrap ((p.log.length:Int) - 1)=(p.log.length:Int) - 1:=wrap_i64 (by omega) (by omega)
 simp [d9,i6,j9,b8,d7,G1,tx,num,w0]
 refine j8 (X:=Nat) (fun j=>⟨t6 [(1,.val (num id)),(2,.ptr 2 0),(5,.val (num ((j:Int) - 1)))],t8 [(2,T1 p)]⟩) (fun j=>j≤p.log.length∧a5m (p.log.take j) id=r) (fun j=>j) p.log.length (Le.mk _ _ ?_ ?_) ?_ ?_
 · simp [num,PV.kill]
 · simp [T1,tx,num,MObj.kill,PV.kill]
 · exact ⟨Nat.le_refl _,by rw [List.take_length];exact hr⟩
 · rintro j ⟨hj,hrr⟩
   simp [num]
   refine f8 (fun h1=>?_) (fun h1=>?_)
   · obtain ⟨t,rfl⟩:∃ t,j=t+1:=⟨j - 1,by omega⟩
     have ht:t < p.log.length:=by omega
     obtain ⟨e,he⟩:∃ e,p.log[t]=e:=⟨_,rfl⟩
     have htk:p.log.take (t+1)=p.log.take t++[e]:=by rw [List.take_add_one,List.getElem?_eq_getElem ht,he];rfl
     rw [htk,b44] at hrr
     have ej:((t+1:Nat):Int) - 1=(t:Int):=by omega
     have wj:IntKind.i64.wrap ((t:Int) - 1)=(t:Int) - 1:=wrap_i64 (by omega) (by omega)
     rw [Int.natCast_add] at *
     simp only [Int.natCast_one,Int.add_sub_cancel] at *
     by_cases hid:e.id=id
     · rw [if_pos hid] at hrr
       subst hrr
       simp [num,T1,tx,ht,he,A1,hid]
     · rw [if_neg hid] at hrr
       simp [num,T1,tx,ht,he,A1,hid]
       refine LoopNext.mk t ⟨by omega,hrr⟩ (by omega) (Le.mk _ _ ?_ ?_)
       · simp [num,wj]
       · simp [T1,num,tx]
   · obtain rfl:j=0:=by omega
     have:r=none:=by rw [← hrr];rfl
     subst this
     simp [num]
end Go.Proofs
end
