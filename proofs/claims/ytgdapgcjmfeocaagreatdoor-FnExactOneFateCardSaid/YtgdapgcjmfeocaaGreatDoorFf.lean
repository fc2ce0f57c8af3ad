/- Ff: merged out of KXf, KXg. -/
import Derived.Test.YtgdapgcjmfeocaaGreatDoorFd
import Derived.Test.YtgdapgcjmfeocaaGreatDoorFc
import Derived.Test.YtgdapgcjmfeocaaGreatDoorEg
import Derived.Test.YtgdapgcjmfeocaaGreatDoorCc
import Derived.Test.YtgdapgcjmfeocaaGreatDoorBa
import Derived.Test.YtgdapgcjmfeocaaGreatDoorEp
set_option linter.unusedSectionVars false
set_option linter.unusedSimpArgs false
set_option linter.unusedVariables false
set_option maxRecDepth 100000
section
namespace Go.Proofs
open Go.PW Go.KP
attribute [local simp] RV.cells RV.one PV.cells PV.solid PV.one t8 f9 H0 A5 RV.ofCells elems PV.killL
variable [GH]
def Z4 (l:List LEntry) (id:Int):List LEntry:=l.filter fun e=>decide (e.id=id)
theorem b39 (l:List LEntry) (id:Int) (i:Nat) (h:i < l.length):Z4 (l.take (i+1)) id=Z4 (l.take i) id++(if l[i].id=id then [l[i]] else []):=by
 unfold Z4
 rw [List.take_add_one,List.getElem?_eq_getElem h,List.filter_append]
 congr 1
 by_cases h:l[i].id=id<;>simp [h]
theorem b5x (l:List LEntry) (id:Int) (i:Nat):(Z4 (l.take i) id).length≤i:=Nat.le_trans (List.length_filter_le _ _) (by simp;omega)
theorem b6k (p:LPipe) (id:Int) (hb:V6 1048576 p):d8 Tryz.prog 50 [.val (u0 p),.val (num id)] (.ret (.val (.list 3 ((Z4 p.log id).map u1))) []) []:=by
 have hll:p.log.length≤1048576:=hb.2.2.1
 refine f5 mixed ok50 rfl (fun _=>rfl) ?_
 unfold ir50
 rw [b7]
 simp [d9,i6,j6,b8,d7,u0,tx,num]
 refine j7 (X:=Nat) (fun i=>⟨l8 [(1,.val (num id)),(2,.ptr 2 0),(5,.own 7),(6,.val (num i))],l9 [(2,M4 p),(7,.row 83 3 ((Z4 (p.log.take i) id).map u1))]⟩) (fun i=>i≤p.log.length) (fun i=>p.log.length - i) 0 (Le.mk _ _ ?_ ?_) (Nat.zero_le _) ?_
 · simp [num,PV.kill]
 · simp [Z4,M4,tx,num,MObj.kill,PV.kill]
 · intro i hi
   simp [num,M4,tx]
   refine f6 (fun h1=>?_) (fun h1=>?_)
   · obtain ⟨e,he⟩:∃ e,p.log[i]=e:=⟨_,rfl⟩
     have hst:=b39 p.log id i h1
     have hln:=b5x p.log id i
     rw [he] at hst
     simp [num,h1,he,u1]
     by_cases hid:e.id=id
     · rw [if_pos hid] at hst
       simp [num,hid,h1,he,u1]
       refine ⟨by omega,by omega,?_⟩
       refine LoopNext.mk (i+1) h1 (by omega) (Le.mk _ _ ?_ ?_)
       · simp [num];exact wrap_i64 (by omega) (by omega)
       · simp [hst,u1,num,hid,M4,tx]
     · rw [if_neg hid,List.append_nil] at hst
       simp [num,hid]
       refine LoopNext.mk (i+1) h1 (by omega) (Le.mk _ _ ?_ ?_)
       · simp [num];exact wrap_i64 (by omega) (by omega)
       · simp [hst,M4,tx,num]
   · have e:i=p.log.length:=by omega
     subst e
     simp [num,V2,PV.pl]
attribute [local simp] b1b b1a b7o b7p b7m b7n W4 b3d a79 Z0 T5 a5p a8r dK_lo dK_DN dM_lo dM_DN inR L8
end Go.Proofs
end
section
namespace Go.Proofs
open Go.PW Go.KP
attribute [local simp] RV.cells RV.one PV.cells PV.solid PV.one t8 f9 H0 A5 RV.ofCells elems PV.killL
variable [GH]
def a5s (log:List LEntry) (kind:Int):Nat→List Int
 | 0=>[]
 | n+1=>a5s log kind n++(if (a4c log ((n+1:Nat):Int)).getD 0=kind then [((n+1:Nat):Int)] else [])
theorem a69 (log:List LEntry) (kind:Int):∀ n,(a5s log kind n).length≤n
 | 0=>Nat.le_refl _
 | n+1=>by
  have:=a69 log kind n
  unfold a5s
  split<;>simp<;>omega
def b2r (p:LPipe) (kind:Int):List Int:=a5s p.log kind (p.next - 1).toNat
theorem b72 (p:LPipe) (kind:Int) (h:p.next≤4096):(b2r p kind).length≤4095:=by
 have:=a69 p.log kind (p.next - 1).toNat
 unfold b2r;omega
theorem c8i (p:LPipe) (kind:Int) (hb:V6 1048576 p) (hn:p.next≤4096):d8 Tryz.prog 57 [.val (u0 p),.val (num kind)] (.ret (.val (.list 1 ((b2r p kind).map num))) []) []:=by
 refine f5 mixed ok57 rfl (fun _=>rfl) ?_
 unfold ir57
 rw [b7]
 unfold b2r
 obtain ⟨N,hN⟩:∃ N,(p.next - 1).toNat=N:=⟨_,rfl⟩
 rw [hN]
 simp [d9,i6,j6,b8,d7,u0,tx,num]
 refine j7 (X:=Nat) (fun n=>⟨l8 [(1,.val (num kind)),(2,.ptr 2 0),(5,.own 7),(6,.val (num ((n+1:Nat):Int)))],l9 [(2,M4 p),(7,.row 3 1 ((a5s p.log kind n).map num))]⟩) (fun n=>n≤N) (fun n=>N - n) 0 (Le.mk _ _ ?_ ?_) (Nat.zero_le _) ?_
 · simp [num,PV.kill]
 · simp [a5s,M4,tx,num,MObj.kill,PV.kill]
 · intro n hi
   simp [num,M4,tx]
   refine f6 (fun h1=>?_) (fun h1=>?_)
   · have hF:=c5n p ((n+1:Nat):Int) hb
     have hln:=a69 p.log kind n
     have hst:a5s p.log kind (n+1)=a5s p.log kind n++(if (a4c p.log ((n+1:Nat):Int)).getD 0=kind then [((n+1:Nat):Int)] else []):=rfl
     have e1:((n+1:Nat):Int)=(n:Int)+1:=by omega
     rw [e1] at hF hst
     simp [num,f9]
     refine b6 rfl rfl (.inl rfl) hF ?_
     by_cases hk:(a4c p.log ((n:Int)+1)).getD 0=kind
     · rw [if_pos hk] at hst
       simp [num,hk]
       refine ⟨by omega,by omega,?_⟩
       refine LoopNext.mk (n+1) (by omega) (by omega) (Le.mk _ _ ?_ ?_)
       · simp [num];exact wrap_i64 (by omega) (by omega)
       · simp [hst,num,M4,tx]
     · rw [if_neg hk,List.append_nil] at hst
       simp [num,hk]
       refine LoopNext.mk (n+1) (by omega) (by omega) (Le.mk _ _ ?_ ?_)
       · simp [num];exact wrap_i64 (by omega) (by omega)
       · simp [hst,num,M4,tx]
   · have e:n=N:=by omega
     subst e
     simp [num,V2,PV.pl]
theorem i_ids (p:LPipe) (kind:Int) (hb:V6 1048576 p) (hn:p.next≤4096):d8 Tryz.prog 61 [.val (u0 p),.val (num kind)] (.ret (.own 0) [⟨3,1,(b2r p kind).map num⟩]) []:=by
 refine c24 (mk:=fun i=>.own i) mixed ok61 rfl (fun _=>rfl) ?_
 unfold ir61
 rw [b7]
 unfold b2r
 obtain ⟨N,hN⟩:∃ N,(p.next - 1).toNat=N:=⟨_,rfl⟩
 rw [hN]
 simp [d9,i6,j6,b8,d7,u0,tx,num,f9]
 refine c5m (rs:=[u0 p]) (m:=a4p p.log) (by omega) rfl (b8z p.log) (fun cs h=>by cases h) (i_fates p hb) ?_
 simp [num,b7l]
 refine j7 (X:=Nat) (fun n=>⟨l8 [(1,.val (num kind)),(2,.ptr 2 0),(5,.own 9),(6,.own 10),(7,.val (num ((n+1:Nat):Int)))],l9 [(2,M4 p),(9,a4p p.log),(10,.row 3 1 ((a5s p.log kind n).map num))]⟩) (fun n=>n≤N) (fun n=>N - n) 0 (Le.mk _ _ ?_ ?_) (Nat.zero_le _) ?_
 · simp [num,PV.kill,b7l]
 · simp [a5s,M4,tx,num,MObj.kill,PV.kill,b7l,a4p,a7a]
 · intro n hi
   simp [num,M4,tx]
   refine f6 (fun h1=>?_) (fun h1=>?_)
   · have hm:=b42 p.log ((n+1:Nat):Int) p.log.length (Nat.le_refl _)
     rw [List.take_length] at hm
     have hln:=a69 p.log kind n
     have hst:a5s p.log kind (n+1)=a5s p.log kind n++(if (a4c p.log ((n+1:Nat):Int)).getD 0=kind then [((n+1:Nat):Int)] else []):=rfl
     have e1:((n+1:Nat):Int)=(n:Int)+1:=by omega
     rw [e1] at hm hst
     have go:∀ z:Int,(a4c p.log ((n:Int)+1)).getD 0=z→(a4q p.log).2 (.i ((n:Int)+1))=none∧z=0∨(∃ b,(a4q p.log).2 (.i ((n:Int)+1))=some (.val (num z),b)):=fun z hz=>by
      rcases hm with ⟨h1,h2⟩ | ⟨b,k,h1,h2⟩
      · rw [h2] at hz;exact .inl ⟨h1,by simpa using hz.symm⟩
      · rw [h2] at hz;simp at hz;subst hz;exact .inr ⟨b,h1⟩
     obtain ⟨z,hz⟩:∃ z,(a4c p.log ((n:Int)+1)).getD 0=z:=⟨_,rfl⟩
     rw [hz] at hst
     by_cases hk:z=kind
     · rw [if_pos hk] at hst
       rcases go z hz with ⟨g1,g2⟩ | ⟨b,g1⟩
       · have hk0:(0:Int)=kind:=by omega
         simp [num,a4p,g1,hk0]
         refine ⟨by omega,by omega,?_⟩
         refine LoopNext.mk (n+1) (by omega) (by omega) (Le.mk _ _ ?_ ?_)
         · simp [num];exact wrap_i64 (by omega) (by omega)
         · simp [hst,num,M4,tx,a4p,a7a,MObj.kill,PV.kill]
       · simp [num,a4p,g1,hk]
         refine ⟨by omega,by omega,?_⟩
         refine LoopNext.mk (n+1) (by omega) (by omega) (Le.mk _ _ ?_ ?_)
         · simp [num];exact wrap_i64 (by omega) (by omega)
         · simp [hst,num,M4,tx,a4p,a7a,MObj.kill,PV.kill]
     · rw [if_neg hk,List.append_nil] at hst
       rcases go z hz with ⟨g1,g2⟩ | ⟨b,g1⟩
       · have hk0:¬ (0:Int)=kind:=by omega
         simp [num,a4p,g1,hk0]
         refine LoopNext.mk (n+1) (by omega) (by omega) (Le.mk _ _ ?_ ?_)
         · simp [num];exact wrap_i64 (by omega) (by omega)
         · simp [hst,num,M4,tx,a4p]
       · simp [num,a4p,g1,hk]
         refine LoopNext.mk (n+1) (by omega) (by omega) (Le.mk _ _ ?_ ?_)
         · simp [num];exact wrap_i64 (by omega) (by omega)
         · simp [hst,num,M4,tx,a4p]
   · have e:n=N:=by omega
     subst e
     simp [num]
def acC (p:LPipe):Int:=if H4 p then (if p.next≤4096 then 0 else 6) else 1
theorem c8j (p:LPipe) (hb:V6 1048576 p):d8 Tryz.prog 46 [.val (u0 p)] (.ret (.val (num (acC p))) []) []:=by
 refine f5 mixed ok46 rfl (fun _=>rfl) ?_
 unfold ir46
 rw [b7]
 unfold acC
 simp [d9,i6,j6,b8,d7,u0,tx,num,f9]
 refine b6 rfl rfl (.inl rfl) (c_l08OK p hb) ?_
 cases hok:H4 p with
 | false=>simp [num]
 | true=>
  simp [num]
  by_cases h:p.next≤4096
  · have h':¬ 4096 < p.next:=by omega
    simp [num,h,h']
  · have h':4096 < p.next:=by omega
    simp [num,h,h']
theorem c4q (p:LPipe) (hb:V6 1048576 p):d8 Tryz.prog 48 [.val (u0 p)] (.ret (.val (num (acC p))) []) []:=by
 refine f5 mixed ok48 rfl (fun _=>rfl) ?_
 unfold ir48
 rw [b7]
 have hf:=i_first [if H4 p then 0 else 1,if p.next≤4096 then 0 else 6] (by simp)
 have hr:a3v [if H4 p then 0 else 1,if p.next≤4096 then 0 else 6]=acC p:=by
  unfold acC
  cases H4 p<;>by_cases h:p.next≤4096<;>simp [a3v,h]
 rw [hr] at hf
 simp [d9,i6,j6,b8,d7,u0,tx,num,f9]
 refine m0 rfl rfl (.inl rfl) (c7q p hb) ?_
 simp [num]
 refine m0 rfl rfl (.inl rfl) (b2y (H4 p) 1) ?_
 simp [num]
 refine b6 rfl rfl (.inl rfl) (b2y (decide (p.next≤4096)) 6) ?_
 simp [num]
 refine b6 rfl rfl (.inr rfl) hf ?_
 simp [num]
theorem b9o {p:LPipe} (h:acC p=0):H4 p=true∧p.next≤4096:=by
 unfold acC at h
 cases hok:H4 p with
 | false=>rw [hok] at h;simp at h
 | true=>
  rw [hok] at h
  by_cases h2:p.next≤4096
  · exact ⟨rfl,h2⟩
  · simp [h2] at h
end Go.Proofs
end
