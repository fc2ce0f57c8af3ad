/- Ff: merged out of KXg, KXj. -/
import Derived.Test.YtgdapgcjmfeocaaGreatDoorFd
import Derived.Test.YtgdapgcjmfeocaaGreatDoorFc
import Derived.Test.YtgdapgcjmfeocaaGreatDoorEp
import Derived.Test.YtgdapgcjmfeocaaGreatDoorBa
set_option linter.unusedSectionVars false
set_option linter.unusedSimpArgs false
set_option linter.unusedVariables false
set_option maxRecDepth 100000
section
namespace Go.Proofs
open Go.PW Go.KP
attribute [local simp] RV.cells RV.one PV.cells PV.solid PV.one G3 i7 L8 L5 RV.ofCells elems PV.killL
variable [GH]
def a7d (log:List LEntry) (kind:Int):Nat→List Int
 | 0=>[]
 | n+1=>a7d log kind n++(if (a5m log ((n+1:Nat):Int)).getD 0=kind then [((n+1:Nat):Int)] else [])
theorem b15 (log:List LEntry) (kind:Int):∀ n,(a7d log kind n).length≤n
 | 0=>Nat.le_refl _
 | n+1=>by
  have:=b15 log kind n
  unfold a7d
  split<;>simp<;>omega
def c34 (p:LPipe) (kind:Int):List Int:=a7d p.log kind (p.next - 1).toNat
theorem d1m (p:LPipe) (kind:Int) (hb:Z3 1048576 p) (hn:p.next≤4096):d8 Tryz.prog 57 [.val (G1 p),.val (num kind)] (.ret (.val (.list 1 ((c34 p kind).map num))) []) []:=by
 refine f6 mixed ok57 rfl (fun _=>rfl) ?_
 unfold ir57
 rw [b6]
 unfold c34
 obtain ⟨N,hN⟩:∃ N,(p.next - 1).toNat=N:=⟨_,rfl⟩
 rw [hN]
 simp [d9,i6,j9,b8,d7,G1,tx,num]
 refine j8 (X:=Nat) (fun n=>⟨t6 [(1,.val (num kind)),(2,.ptr 2 0),(5,.own 7),(6,.val (num ((n+1:Nat):Int)))],t8 [(2,T1 p),(7,.row 3 1 ((a7d p.log kind n).map num))]⟩) (fun n=>n≤N) (fun n=>N - n) 0 (Le.mk _ _ ?_ ?_) (Nat.zero_le _) ?_
 · simp [num,PV.kill]
 · simp [a7d,T1,tx,num,MObj.kill,PV.kill]
 · intro n hi
   simp [num,T1,tx]
   refine f8 (fun h1=>?_) (fun h1=>?_)
   · have hF:=c8s p ((n+1:Nat):Int) hb
     have hln:=b15 p.log kind n
     have hst:a7d p.log kind (n+1)=a7d p.log kind n++(if (a5m p.log ((n+1:Nat):Int)).getD 0=kind then [((n+1:Nat):Int)] else []):=rfl
     have e1:((n+1:Nat):Int)=(n:Int)+1:=by omega
     rw [e1] at hF hst
     simp [num,i7]
     refine b7 rfl rfl (.inl rfl) hF ?_
     by_cases hk:(a5m p.log ((n:Int)+1)).getD 0=kind
     · rw [if_pos hk] at hst
       simp [num,hk]
       refine ⟨by omega,by omega,?_⟩
       refine LoopNext.mk (n+1) (by omega) (by omega) (Le.mk _ _ ?_ ?_)
       · simp [num];exact wrap_i64 (by omega) (by omega)
       · simp [hst,num,T1,tx]
     · rw [if_neg hk,List.append_nil] at hst
       simp [num,hk]
       refine LoopNext.mk (n+1) (by omega) (by omega) (Le.mk _ _ ?_ ?_)
       · simp [num];exact wrap_i64 (by omega) (by omega)
       · simp [hst,num,T1,tx]
   · have e:n=N:=by omega
     subst e
     simp [num,a1d,PV.pl]
theorem i_ids (p:LPipe) (kind:Int) (hb:Z3 1048576 p) (hn:p.next≤4096):d8 Tryz.prog 61 [.val (G1 p),.val (num kind)] (.ret (.own 0) [⟨3,1,(c34 p kind).map num⟩]) []:=by
 refine a67 (mk:=fun i=>.own i) mixed ok61 rfl (fun _=>rfl) ?_
 unfold ir61
 rw [b6]
 unfold c34
 obtain ⟨N,hN⟩:∃ N,(p.next - 1).toNat=N:=⟨_,rfl⟩
 rw [hN]
 simp [d9,i6,j9,b8,d7,G1,tx,num,i7]
 refine c8r (rs:=[G1 p]) (m:=a50 p.log) (by omega) rfl (c11 p.log) (fun cs h=>by cases h) (i_fates p hb) ?_
 simp [num,c0t]
 refine j8 (X:=Nat) (fun n=>⟨t6 [(1,.val (num kind)),(2,.ptr 2 0),(5,.own 9),(6,.own 10),(7,.val (num ((n+1:Nat):Int)))],t8 [(2,T1 p),(9,a50 p.log),(10,.row 3 1 ((a7d p.log kind n).map num))]⟩) (fun n=>n≤N) (fun n=>N - n) 0 (Le.mk _ _ ?_ ?_) (Nat.zero_le _) ?_
 · simp [num,PV.kill,c0t]
 · simp [a7d,T1,tx,num,MObj.kill,PV.kill,c0t,a50,a88]
 · intro n hi
   simp [num,T1,tx]
   refine f8 (fun h1=>?_) (fun h1=>?_)
   · have hm:=b7s p.log ((n+1:Nat):Int) p.log.length (Nat.le_refl _)
     rw [List.take_length] at hm
     have hln:=b15 p.log kind n
     have hst:a7d p.log kind (n+1)=a7d p.log kind n++(if (a5m p.log ((n+1:Nat):Int)).getD 0=kind then [((n+1:Nat):Int)] else []):=rfl
     have e1:((n+1:Nat):Int)=(n:Int)+1:=by omega
     rw [e1] at hm hst
     have go:∀ z:Int,(a5m p.log ((n:Int)+1)).getD 0=z→(a52 p.log).2 (.i ((n:Int)+1))=none∧z=0∨(∃ b,(a52 p.log).2 (.i ((n:Int)+1))=some (.val (num z),b)):=fun z hz=>by
      rcases hm with ⟨h1,h2⟩ | ⟨b,k,h1,h2⟩
      · rw [h2] at hz;exact .inl ⟨h1,by simpa using hz.symm⟩
      · rw [h2] at hz;simp at hz;subst hz;exact .inr ⟨b,h1⟩
     obtain ⟨z,hz⟩:∃ z,(a5m p.log ((n:Int)+1)).getD 0=z:=⟨_,rfl⟩
     rw [hz] at hst
     by_cases hk:z=kind
     · rw [if_pos hk] at hst
       rcases go z hz with ⟨g1,g2⟩ | ⟨b,g1⟩
       · have hk0:(0:Int)=kind:=by omega
         simp [num,a50,g1,hk0]
         refine ⟨by omega,by omega,?_⟩
         refine LoopNext.mk (n+1) (by omega) (by omega) (Le.mk _ _ ?_ ?_)
         · simp [num];exact wrap_i64 (by omega) (by omega)
         · simp [hst,num,T1,tx,a50,a88,MObj.kill,PV.kill]
       · simp [num,a50,g1,hk]
         refine ⟨by omega,by omega,?_⟩
         refine LoopNext.mk (n+1) (by omega) (by omega) (Le.mk _ _ ?_ ?_)
         · simp [num];exact wrap_i64 (by omega) (by omega)
         · simp [hst,num,T1,tx,a50,a88,MObj.kill,PV.kill]
     · rw [if_neg hk,List.append_nil] at hst
       rcases go z hz with ⟨g1,g2⟩ | ⟨b,g1⟩
       · have hk0:¬ (0:Int)=kind:=by omega
         simp [num,a50,g1,hk0]
         refine LoopNext.mk (n+1) (by omega) (by omega) (Le.mk _ _ ?_ ?_)
         · simp [num];exact wrap_i64 (by omega) (by omega)
         · simp [hst,num,T1,tx,a50]
       · simp [num,a50,g1,hk]
         refine LoopNext.mk (n+1) (by omega) (by omega) (Le.mk _ _ ?_ ?_)
         · simp [num];exact wrap_i64 (by omega) (by omega)
         · simp [hst,num,T1,tx,a50]
   · have e:n=N:=by omega
     subst e
     simp [num]
def acC (p:LPipe):Int:=if O7 p then (if p.next≤4096 then 0 else 6) else 1
theorem d1n (p:LPipe) (hb:Z3 1048576 p):d8 Tryz.prog 46 [.val (G1 p)] (.ret (.val (num (acC p))) []) []:=by
 refine f6 mixed ok46 rfl (fun _=>rfl) ?_
 unfold ir46
 rw [b6]
 unfold acC
 simp [d9,i6,j9,b8,d7,G1,tx,num,i7]
 refine b7 rfl rfl (.inl rfl) (c_l08OK p hb) ?_
 cases hok:O7 p with
 | false=>simp [num]
 | true=>
  simp [num]
  by_cases h:p.next≤4096
  · have h':¬ 4096 < p.next:=by omega
    simp [num,h,h']
  · have h':4096 < p.next:=by omega
    simp [num,h,h']
theorem c7w (p:LPipe) (hb:Z3 1048576 p):d8 Tryz.prog 48 [.val (G1 p)] (.ret (.val (num (acC p))) []) []:=by
 refine f6 mixed ok48 rfl (fun _=>rfl) ?_
 unfold ir48
 rw [b6]
 have hf:=i_first [if O7 p then 0 else 1,if p.next≤4096 then 0 else 6] (by simp)
 have hr:a43 [if O7 p then 0 else 1,if p.next≤4096 then 0 else 6]=acC p:=by
  unfold acC
  cases O7 p<;>by_cases h:p.next≤4096<;>simp [a43,h]
 rw [hr] at hf
 simp [d9,i6,j9,b8,d7,G1,tx,num,i7]
 refine z8 rfl rfl (.inl rfl) (d01 p hb) ?_
 simp [num]
 refine z8 rfl rfl (.inl rfl) (b5b (O7 p) 1) ?_
 simp [num]
 refine b7 rfl rfl (.inl rfl) (b5b (decide (p.next≤4096)) 6) ?_
 simp [num]
 refine b7 rfl rfl (.inr rfl) hf ?_
 simp [num]
theorem c22 {p:LPipe} (h:acC p=0):O7 p=true∧p.next≤4096:=by
 unfold acC at h
 cases hok:O7 p with
 | false=>rw [hok] at h;simp at h
 | true=>
  rw [hok] at h
  by_cases h2:p.next≤4096
  · exact ⟨rfl,h2⟩
  · simp [h2] at h
def a2k (p:LPipe):Nat→List Int
 | 0=>[]
 | n+1=>a2k p n++[(((c34 p ((n+1:Nat):Int)).length:Nat):Int)]
theorem a5n (p:LPipe):∀ n,(a2k p n).length=n
 | 0=>rfl
 | n+1=>by unfold a2k;simp [a5n p n]
def cfR (p:LPipe):List Int:=if acC p=0 then a2k p 7 else []
theorem cfR_len (p:LPipe):(cfR p).length≤1048576:=by
 unfold cfR
 split
 · rw [a5n];omega
 · simp
theorem b9u (p:LPipe) (hb:Z3 1048576 p):d8 Tryz.prog 27 [.val (G1 p)] (.ret (.tup [.val (.list 1 ((cfR p).map num)),.val (num (acC p))]) []) []:=by
 refine f6 mixed ok27 rfl (fun _=>rfl) ?_
 unfold ir27
 rw [b6]
 unfold cfR
 simp [d9,i6,j9,b8,d7,G1,tx,num,i7]
 refine b7 rfl rfl (.inl rfl) (d1n p hb) ?_
 by_cases hac:acC p=0
 · have hn:=(c22 hac).2
   simp [num,hac]
   refine j8 (X:=Nat) (fun n=>⟨t6 [(1,.ptr 1 0),(5,.own 13),(6,.val (num ((n+1:Nat):Int)))],t8 [(1,T1 p),(13,.row 3 1 ((a2k p n).map num))]⟩) (fun n=>n≤7) (fun n=>7 - n) 0 (Le.mk _ _ ?_ ?_) (Nat.zero_le _) ?_
   · simp [num,PV.kill]
   · simp [a2k,T1,tx,num,MObj.kill,PV.kill]
   · intro n hi
     simp [num,T1,tx]
     refine f8 (fun h1=>?_) (fun h1=>?_)
     · have hc:=d1m p ((n+1:Nat):Int) hb hn
       have hln:=a5n p n
       have hst:a2k p (n+1)=a2k p n++[(((c34 p ((n+1:Nat):Int)).length:Nat):Int)]:=rfl
       have e1:((n+1:Nat):Int)=(n:Int)+1:=by omega
       rw [e1] at hc hst
       simp [num,i7]
       refine b7 rfl rfl (.inl rfl) hc ?_
       simp [num]
       refine ⟨by omega,by omega,?_⟩
       refine LoopNext.mk (n+1) (by omega) (by omega) (Le.mk _ _ ?_ ?_)
       · simp [num];exact wrap_i64 (by omega) (by omega)
       · simp [hst,num,T1,tx]
     · have e:n=7:=by omega
       subst e
       simp [num,a1d,PV.pl,hac]
 · simp [num,hac,a1d,PV.pl]
theorem b9h (p:LPipe) (hb:Z3 1048576 p):d8 Tryz.prog 28 [.val (G1 p)] (.ret (.tup [.own 0,.val (num (acC p))]) [⟨3,1,(cfR p).map num⟩]) []:=by
 refine d1l (mk:=fun i=>.tup [.own i,.val (num (acC p))]) mixed ok28 rfl (fun _=>rfl) ?_
 unfold ir28
 rw [b6]
 unfold cfR
 simp [d9,i6,j9,b8,d7,G1,tx,num,i7]
 refine b7 rfl rfl (.inl rfl) (c7w p hb) ?_
 by_cases hac:acC p=0
 · have hn:=(c22 hac).2
   simp [num,hac]
   refine j8 (X:=Nat) (fun n=>⟨t6 [(1,.ptr 1 0),(5,.own 12),(6,.val (num ((n+1:Nat):Int)))],t8 [(1,T1 p),(12,.row 3 1 ((a2k p n).map num))]⟩) (fun n=>n≤7) (fun n=>7 - n) 0 (Le.mk _ _ ?_ ?_) (Nat.zero_le _) ?_
   · simp [num,PV.kill]
   · simp [a2k,T1,tx,num,MObj.kill,PV.kill]
   · intro n hi
     simp [num,T1,tx]
     refine f8 (fun h1=>?_) (fun h1=>?_)
     · have hc:=i_ids p ((n+1:Nat):Int) hb hn
       have hln:=a5n p n
       have hst:a2k p (n+1)=a2k p n++[(((c34 p ((n+1:Nat):Int)).length:Nat):Int)]:=rfl
       have e1:((n+1:Nat):Int)=(n:Int)+1:=by omega
       rw [e1] at hc hst
       simp [num,i7]
       refine c2m rfl rfl rfl (.inl rfl) hc ?_
       simp [num,l4,PV.shift,PV.kill]
       refine ⟨by omega,by omega,?_⟩
       refine LoopNext.mk (n+1) (by omega) (by omega) (Le.mk _ _ ?_ ?_)
       · simp [num,PV.kill];exact wrap_i64 (by omega) (by omega)
       · simp [hst,num,T1,tx,MObj.kill,PV.kill]
     · have e:n=7:=by omega
       subst e
       simp [num]
       exact c9p 12 (by simp) (by simp [hac,num]) (by simp [hac])
 · simp [num,hac]
   exact c9q 1 2 (by omega) (.inl (by omega)) (by omega) (by simp) (by simp)
end Go.Proofs
end
section
namespace Go.Proofs
open Go.PW Go.KP
attribute [local simp] RV.cells RV.one PV.cells PV.solid PV.one G3 i7 L8 L5 RV.ofCells elems PV.killL
variable [GH]
attribute [local simp] a7h b3e c0v c0w c0u b7h a4m b5u a96 b70 b2j b6h b0p dK_lo dK_DN dM_lo dM_DN inR A2
theorem b45 (p:LPipe) (hb:Z3 9223372036854775807 p):d8 Tryz.prog 7 [.val (G1 p)] (.ret (.val (.bool true)) []) []:=by
 refine f6 mixed ok7 rfl (fun _=>rfl) ?_
 unfold ir7
 rw [b6]
 simp [d9,i6,j9,b8,d7,G1,tx,num,i7]
 refine b7 rfl rfl (.inl rfl) (d06 p 1048576 (by omega) (by omega) hb) ?_
 by_cases hz:cut 1048576 (b31 p) < 0
 · simp [num,hz]
 · obtain ⟨hz1,_⟩:=c8o hz (by omega)
   have hs:Z3 1048576 p:=c9a (by omega)
   have hcnt:=c5e p
   have hlen:(cfR p).length≤1048576:=cfR_len p
   have hmk:=c5a p 1 hs (by omega)
   obtain ⟨mk,hmk0⟩:∃ m,1+a64 p=m:=⟨_,rfl⟩
   rw [hmk0] at hmk
   have hne1:¬ (mk:Int) < 0:=by omega
   have hm:=b5f (cfR p) 1 (by omega) hlen
   have hh:=c4t (cfR p).length 1 (by omega) hlen
   obtain ⟨m1,hm1⟩:∃ m,1+1*(cfR p).length=m:=⟨_,rfl⟩
   rw [hm1] at hm hh
   have hne2:¬ (m1:Int) < 0:=by omega
   have hsp:=b9u p hs
   have hip:=b9h p hs
   have heq:=c1y (cfR p) hlen
   have hfl:=a49 (f:=num) (fun _=>rfl) (cfR p)
   obtain ⟨rw0,hrw⟩:∃ l,(cfR p).map num=l:=⟨_,rfl⟩
   obtain ⟨rk0,hrk⟩:∃ l,(mkL a26 1 (cfR p).length 1).map num=l:=⟨_,rfl⟩
   obtain ⟨c0,hc0⟩:∃ c,acC p=c:=⟨_,rfl⟩
   rw [hrw,hc0] at hsp hip
   rw [hrw] at heq hm hfl
   rw [hrk] at hm hh
   simp [num,hz,i7]
   refine b7 rfl rfl (.inl rfl) (b32 p hs) ?_
   simp [i7,num]
   refine Y3 rfl rfl (.inl rfl) hsp ?_
   simp [i7,G1,tx,num]
   refine a3m (rs:=[G1 p]) a0m rfl (c2c p hs) (fun k j hk hl=>⟨b1z p k j hl,a6g p k j,a92 p k j⟩) (a9c p) ?_
   simp [i7,tx,num,a3z,a0m,PV.kill,Q8,O9,U6,a0q,P1,U7,W9,a2o]
   refine callR (rs:=[G1 p]) a0m (Q8 p) hip rfl (fun k j hk hT=>?_) (fun k j hk=>⟨a6g p k j,a92 p k j⟩) (fun M hM j hj=>?_) ?_ rfl (by simp [PV.flat,PV.flat.go,RV.flat,num]) ?_ (by omega) (by simp) ?_
   · simp [hk,hT,b10]
   · have:j=0:=by simp at hj;omega
     subst this
     exact b4i p M hM
   · intro q hq
     simp only [List.mem_cons,List.not_mem_nil,or_false] at hq
     subst hq
     exact a9c p
   · intro q hq x hx
     rw [List.mem_singleton.1 hq] at hx
     exact hfl x hx
   simp [i7,tx,num,PV.shift,PV.shiftL,l4]
   refine b7 rfl rfl (.inr rfl) heq ?_
   simp [i7,tx,num]
   refine z8 rfl rfl (.inl rfl) (b32 p hs) ?_
   simp [i7,tx,num,PV.kill]
   refine callR (rs:=[G1 p,G1 p]) a0m (Q8 p) (d1b p hs) rfl (fun k j hk hT=>?_) (fun k j hk=>⟨a6g p k j,a92 p k j⟩) (fun M hM j hj=>?_) ?_ rfl rfl ?_ (by omega) (by simp) ?_
   · simp [hk,hT,b10]
   · have:j=0∨j=1:=by simp at hj;omega
     rcases this with rfl | rfl
     · exact b4i p M hM
     · exact .val _
   · intro q hq
     simp only [List.mem_cons,List.not_mem_nil,or_false] at hq
     rcases hq with rfl | rfl
     · exact a9c p
     · exact S5
   · intro r hr;cases hr
   simp [i7,tx,num,PV.shift,PV.kill,l4]
   refine c2l (G:=Q8 p) a0m hmk ?_ (fun k j hk hl=>⟨b1z p k j hl,?_,a6g p k j⟩) ?_
   · intro q hq
     simp only [List.mem_cons,List.not_mem_nil,or_false] at hq
     rcases hq with rfl | rfl
     · exact a9c p
     · exact S5
   · have hT:=b1z p k j hl
     simp [hk,hT,b10]
   simp [i7,tx,num,PV.kill,a0m,hne1]
   refine b7 rfl rfl (.inr rfl) heq ?_
   simp [i7,tx,num,PV.kill,hne1,hne2]
   refine b8f rfl rfl rfl rfl hm rfl ?_
   simp [i7,tx,num,PV.kill,hne1,hne2]
   refine b7 rfl rfl (.inr rfl) hh ?_
   simp [i7,tx,num,PV.kill,hne1,hne2]
   refine b7 rfl rfl (.inl rfl) (b32 p hs) ?_
   simp [i7,G1,tx,num,PV.kill]
   refine c2m rfl rfl rfl (.inl rfl) hip ?_
   simp [i7,tx,num,PV.kill,PV.shift,PV.shiftL,l4]
   refine b7 rfl rfl (.inr rfl) heq ?_
   simp [i7,tx,num,PV.kill]
   refine b7 rfl rfl (.inr rfl) hh ?_
   simp [i7,tx,num,PV.kill,hne2]
end Go.Proofs
end
