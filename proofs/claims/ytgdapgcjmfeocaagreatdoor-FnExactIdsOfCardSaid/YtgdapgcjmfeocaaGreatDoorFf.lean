/- Ff: merged out of KXg, KXi. -/
import Derived.Test.YtgdapgcjmfeocaaGreatDoorFd
import Derived.Test.YtgdapgcjmfeocaaGreatDoorFc
import Derived.Test.YtgdapgcjmfeocaaGreatDoorEp
import Derived.Test.YtgdapgcjmfeocaaGreatDoorBa
set_option linter.unusedSectionVars false
set_option linter.unusedSimpArgs false
set_option linter.unusedVariables false
set_option maxRecDepth 100000
section
namespace Go.Proofs
open Go.PW Go.KP
attribute [local simp] RV.cells RV.one PV.cells PV.solid PV.one G4 i7 L9 L6 RV.ofCells elems PV.killL
variable [GH]
def a7b (log:List LEntry) (kind:Int):Nat→List Int
 | 0=>[]
 | n+1=>a7b log kind n++(if (a5m log ((n+1:Nat):Int)).getD 0=kind then [((n+1:Nat):Int)] else [])
theorem a86 (log:List LEntry) (kind:Int):∀ n,(a7b log kind n).length≤n
 | 0=>Nat.le_refl _
 | n+1=>by
  have:=a86 log kind n
  unfold a7b
  split<;>simp<;>omega
def c0u (p:LPipe) (kind:Int):List Int:=a7b p.log kind (p.next - 1).toNat
theorem c94 (p:LPipe) (kind:Int) (h:p.next≤4096):(c0u p kind).length≤4095:=by
 have:=a86 p.log kind (p.next - 1).toNat
 unfold c0u;omega
theorem d1f (p:LPipe) (kind:Int) (hb:Z4 1048576 p) (hn:p.next≤4096):d8 Tryz.prog 57 [.val (G2 p),.val (num kind)] (.ret (.val (.list 1 ((c0u p kind).map num))) []) []:=by
 refine f7 mixed ok57 rfl (fun _=>rfl) ?_
 unfold ir57
 rw [b6]
 unfold c0u
 obtain ⟨N,hN⟩:∃ N,(p.next - 1).toNat=N:=⟨_,rfl⟩
 rw [hN]
 simp [d9,i6,j8,b8,d7,G2,tx,num]
 refine j9 (X:=Nat) (fun n=>⟨t6 [(1,.val (num kind)),(2,.ptr 2 0),(5,.own 7),(6,.val (num ((n+1:Nat):Int)))],u1 [(2,U6 p),(7,.row 3 1 ((a7b p.log kind n).map num))]⟩) (fun n=>n≤N) (fun n=>N - n) 0 (Le.mk _ _ ?_ ?_) (Nat.zero_le _) ?_
 · simp [num,PV.kill]
 · simp [a7b,U6,tx,num,MObj.kill,PV.kill]
 · intro n hi
   simp [num,U6,tx]
   refine f8 (fun h1=>?_) (fun h1=>?_)
   · have hF:=c8i p ((n+1:Nat):Int) hb
     have hln:=a86 p.log kind n
     have hst:a7b p.log kind (n+1)=a7b p.log kind n++(if (a5m p.log ((n+1:Nat):Int)).getD 0=kind then [((n+1:Nat):Int)] else []):=rfl
     have e1:((n+1:Nat):Int)=(n:Int)+1:=by omega
     rw [e1] at hF hst
     simp [num,i7]
     refine b7 rfl rfl (.inl rfl) hF ?_
     by_cases hk:(a5m p.log ((n:Int)+1)).getD 0=kind
     · rw [if_pos hk] at hst
       simp [num,hk]
       refine ⟨by omega,by omega,?_⟩
       refine LoopNext.mk (n+1) (by omega) (by omega) (Le.mk _ _ ?_ ?_)
       · simp [num];exact wrap_i64 (by omega) (by omega)
       · simp [hst,num,U6,tx]
     · rw [if_neg hk,List.append_nil] at hst
       simp [num,hk]
       refine LoopNext.mk (n+1) (by omega) (by omega) (Le.mk _ _ ?_ ?_)
       · simp [num];exact wrap_i64 (by omega) (by omega)
       · simp [hst,num,U6,tx]
   · have e:n=N:=by omega
     subst e
     simp [num,a1e,PV.pl]
theorem i_ids (p:LPipe) (kind:Int) (hb:Z4 1048576 p) (hn:p.next≤4096):d8 Tryz.prog 61 [.val (G2 p),.val (num kind)] (.ret (.own 0) [⟨3,1,(c0u p kind).map num⟩]) []:=by
 refine a65 (mk:=fun i=>.own i) mixed ok61 rfl (fun _=>rfl) ?_
 unfold ir61
 rw [b6]
 unfold c0u
 obtain ⟨N,hN⟩:∃ N,(p.next - 1).toNat=N:=⟨_,rfl⟩
 rw [hN]
 simp [d9,i6,j8,b8,d7,G2,tx,num,i7]
 refine c8h (rs:=[G2 p]) (m:=a5z p.log) (by omega) rfl (c1o p.log) (fun cs h=>by cases h) (i_fates p hb) ?_
 simp [num,c0d]
 refine j9 (X:=Nat) (fun n=>⟨t6 [(1,.val (num kind)),(2,.ptr 2 0),(5,.own 9),(6,.own 10),(7,.val (num ((n+1:Nat):Int)))],u1 [(2,U6 p),(9,a5z p.log),(10,.row 3 1 ((a7b p.log kind n).map num))]⟩) (fun n=>n≤N) (fun n=>N - n) 0 (Le.mk _ _ ?_ ?_) (Nat.zero_le _) ?_
 · simp [num,PV.kill,c0d]
 · simp [a7b,U6,tx,num,MObj.kill,PV.kill,c0d,a5z,a87]
 · intro n hi
   simp [num,U6,tx]
   refine f8 (fun h1=>?_) (fun h1=>?_)
   · have hm:=b7l p.log ((n+1:Nat):Int) p.log.length (Nat.le_refl _)
     rw [List.take_length] at hm
     have hln:=a86 p.log kind n
     have hst:a7b p.log kind (n+1)=a7b p.log kind n++(if (a5m p.log ((n+1:Nat):Int)).getD 0=kind then [((n+1:Nat):Int)] else []):=rfl
     have e1:((n+1:Nat):Int)=(n:Int)+1:=by omega
     rw [e1] at hm hst
     have go:∀ z:Int,(a5m p.log ((n:Int)+1)).getD 0=z→(a50 p.log).2 (.i ((n:Int)+1))=none∧z=0∨(∃ b,(a50 p.log).2 (.i ((n:Int)+1))=some (.val (num z),b)):=fun z hz=>by
      rcases hm with ⟨h1,h2⟩ | ⟨b,k,h1,h2⟩
      · rw [h2] at hz;exact .inl ⟨h1,by simpa using hz.symm⟩
      · rw [h2] at hz;simp at hz;subst hz;exact .inr ⟨b,h1⟩
     obtain ⟨z,hz⟩:∃ z,(a5m p.log ((n:Int)+1)).getD 0=z:=⟨_,rfl⟩
     rw [hz] at hst
     by_cases hk:z=kind
     · rw [if_pos hk] at hst
       rcases go z hz with ⟨g1,g2⟩ | ⟨b,g1⟩
       · have hk0:(0:Int)=kind:=by omega
         simp [num,a5z,g1,hk0]
         refine ⟨by omega,by omega,?_⟩
         refine LoopNext.mk (n+1) (by omega) (by omega) (Le.mk _ _ ?_ ?_)
         · simp [num];exact wrap_i64 (by omega) (by omega)
         · simp [hst,num,U6,tx,a5z,a87,MObj.kill,PV.kill]
       · simp [num,a5z,g1,hk]
         refine ⟨by omega,by omega,?_⟩
         refine LoopNext.mk (n+1) (by omega) (by omega) (Le.mk _ _ ?_ ?_)
         · simp [num];exact wrap_i64 (by omega) (by omega)
         · simp [hst,num,U6,tx,a5z,a87,MObj.kill,PV.kill]
     · rw [if_neg hk,List.append_nil] at hst
       rcases go z hz with ⟨g1,g2⟩ | ⟨b,g1⟩
       · have hk0:¬ (0:Int)=kind:=by omega
         simp [num,a5z,g1,hk0]
         refine LoopNext.mk (n+1) (by omega) (by omega) (Le.mk _ _ ?_ ?_)
         · simp [num];exact wrap_i64 (by omega) (by omega)
         · simp [hst,num,U6,tx,a5z]
       · simp [num,a5z,g1,hk]
         refine LoopNext.mk (n+1) (by omega) (by omega) (Le.mk _ _ ?_ ?_)
         · simp [num];exact wrap_i64 (by omega) (by omega)
         · simp [hst,num,U6,tx,a5z]
   · have e:n=N:=by omega
     subst e
     simp [num]
def acC (p:LPipe):Int:=if O8 p then (if p.next≤4096 then 0 else 6) else 1
theorem d1g (p:LPipe) (hb:Z4 1048576 p):d8 Tryz.prog 46 [.val (G2 p)] (.ret (.val (num (acC p))) []) []:=by
 refine f7 mixed ok46 rfl (fun _=>rfl) ?_
 unfold ir46
 rw [b6]
 unfold acC
 simp [d9,i6,j8,b8,d7,G2,tx,num,i7]
 refine b7 rfl rfl (.inl rfl) (c_l08OK p hb) ?_
 cases hok:O8 p with
 | false=>simp [num]
 | true=>
  simp [num]
  by_cases h:p.next≤4096
  · have h':¬ 4096 < p.next:=by omega
    simp [num,h,h']
  · have h':4096 < p.next:=by omega
    simp [num,h,h']
theorem c7m (p:LPipe) (hb:Z4 1048576 p):d8 Tryz.prog 48 [.val (G2 p)] (.ret (.val (num (acC p))) []) []:=by
 refine f7 mixed ok48 rfl (fun _=>rfl) ?_
 unfold ir48
 rw [b6]
 have hf:=c52 [if O8 p then 0 else 1,if p.next≤4096 then 0 else 6] (by simp)
 have hr:a3c [if O8 p then 0 else 1,if p.next≤4096 then 0 else 6]=acC p:=by
  unfold acC
  cases O8 p<;>by_cases h:p.next≤4096<;>simp [a3c,h]
 rw [hr] at hf
 simp [d9,i6,j8,b8,d7,G2,tx,num,i7]
 refine A0 rfl rfl (.inl rfl) (d0u p hb) ?_
 simp [num]
 refine A0 rfl rfl (.inl rfl) (b1d (O8 p) 1) ?_
 simp [num]
 refine b7 rfl rfl (.inl rfl) (b1d (decide (p.next≤4096)) 6) ?_
 simp [num]
 refine b7 rfl rfl (.inr rfl) hf ?_
 simp [num]
theorem b6b {p:LPipe} (h:acC p=0):O8 p=true∧p.next≤4096:=by
 unfold acC at h
 cases hok:O8 p with
 | false=>rw [hok] at h;simp at h
 | true=>
  rw [hok] at h
  by_cases h2:p.next≤4096
  · exact ⟨rfl,h2⟩
  · simp [h2] at h
def idC (p:LPipe) (kind:Int):Int:=if acC p=0 then (if 1≤kind∧kind≤7 then 0 else 9) else acC p
def idR (p:LPipe) (kind:Int):List Int:=if idC p kind=0 then c0u p kind else []
theorem c05 {p:LPipe} {kind:Int} (h:idC p kind=0):acC p=0∧1≤kind∧kind≤7:=by
 unfold idC at h
 by_cases h1:acC p=0
 · rw [if_pos h1] at h
   by_cases h2:1≤kind∧kind≤7
   · exact ⟨h1,h2⟩
   · rw [if_neg h2] at h;cases h
 · rw [if_neg h1] at h;exact absurd h h1
theorem idR_len (p:LPipe) (kind:Int):(idR p kind).length≤1048576:=by
 unfold idR
 by_cases h:idC p kind=0
 · rw [if_pos h]
   have:=c94 p kind (b6b (c05 h).1).2
   omega
 · rw [if_neg h];simp
theorem c_IdsOf (p:LPipe) (kind:Int) (hb:Z4 1048576 p):d8 Tryz.prog 22 [.val (G2 p),.val (num kind)] (.ret (.tup [.val (.list 1 ((idR p kind).map num)),.val (num (idC p kind))]) []) []:=by
 refine f7 mixed ok22 rfl (fun _=>rfl) ?_
 unfold ir22
 rw [b6]
 simp [d9,i6,j8,b8,d7,G2,tx,num,i7]
 refine b7 rfl rfl (.inl rfl) (d1g p hb) ?_
 by_cases hac:acC p=0
 · have hn:=(b6b hac).2
   simp [num,hac]
   refine b7 rfl rfl (.inl rfl) (T6 .i64 kind 1 7) ?_
   by_cases hk:1≤kind∧kind≤7
   · have e1:idC p kind=0:=by unfold idC;rw [if_pos hac,if_pos hk]
     have e2:idR p kind=c0u p kind:=by unfold idR;rw [if_pos e1]
     simp [num,hk,i7]
     refine b7 rfl rfl (.inl rfl) (d1f p kind hb hn) ?_
     simp [num,e1,e2]
   · have e1:idC p kind=9:=by unfold idC;rw [if_pos hac,if_neg hk]
     have e2:idR p kind=[]:=by unfold idR;rw [if_neg (by omega)]
     simp [num,hk,a1e,PV.pl,e1,e2]
 · have e1:idC p kind=acC p:=by unfold idC;rw [if_neg hac]
   have e2:idR p kind=[]:=by unfold idR;rw [if_neg (by omega)]
   simp [num,hac,a1e,PV.pl,e1,e2]
theorem i_IdsOf (p:LPipe) (kind:Int) (hb:Z4 1048576 p):d8 Tryz.prog 23 [.val (G2 p),.val (num kind)] (.ret (.tup [.own 0,.val (num (idC p kind))]) [⟨3,1,(idR p kind).map num⟩]) []:=by
 refine d1e (mk:=fun i=>.tup [.own i,.val (num (idC p kind))]) mixed ok23 rfl (fun _=>rfl) ?_
 unfold ir23
 rw [b6]
 have hw:=R0 kind 1 7
 obtain ⟨b,hbk⟩:∃ b,decide (1≤kind∧kind≤7)=b:=⟨_,rfl⟩
 rw [hbk] at hw
 have hf:=c52 [acC p,if b then 0 else 9] (by simp)
 have hr:a3c [acC p,if b then 0 else 9]=idC p kind:=by
  unfold idC
  rw [← hbk]
  by_cases h:acC p=0
  · by_cases h2:1≤kind∧kind≤7<;>simp [a3c,h,h2]
  · simp [a3c,h]
 rw [hr] at hf
 simp [d9,i6,j8,b8,d7,G2,tx,num,i7]
 refine b7 rfl rfl (.inl rfl) (c7m p hb) ?_
 simp [num]
 refine b7 rfl rfl (.inl rfl) hw ?_
 simp [num]
 refine b7 rfl rfl (.inl rfl) (b1d b 9) ?_
 simp [num]
 refine b7 rfl rfl (.inr rfl) hf ?_
 unfold idR
 by_cases hz:idC p kind=0
 · have hn:=(b6b (c05 hz).1).2
   simp [num,hz,i7]
   refine c2a rfl rfl rfl (.inl rfl) (i_ids p kind hb hn) ?_
   simp [num,l4,PV.shift]
   exact c9h 20000 (by simp) (by simp [hz,num]) (by simp [hz])
 · simp [num,hz]
   exact c9i 1 4 (by omega) (.inl (by omega)) (by omega) (by simp) (by simp)
end Go.Proofs
end
section
namespace Go.Proofs
open Go.PW Go.KP
attribute [local simp] RV.cells RV.one PV.cells PV.solid PV.one G4 i7 L9 L6 RV.ofCells elems PV.killL
variable [GH]
attribute [local simp] a7f b3c c0f c0g c0e b7a a4n b5o a95 b7t b2g b6c b0o dK_lo dK_DN dM_lo dM_DN inR A3
theorem c69 (p:LPipe) (kind:Int) (hb:Z4 9223372036854775807 p):d8 Tryz.prog 6 [.val (G2 p),.val (num kind)] (.ret (.val (.bool true)) []) []:=by
 refine f7 mixed ok6 rfl (fun _=>rfl) ?_
 unfold ir6
 rw [b6]
 simp [d9,i6,j8,b8,d7,G2,tx,num,i7]
 refine b7 rfl rfl (.inl rfl) (d0z p 1048576 (by omega) (by omega) hb) ?_
 by_cases hz:cut 1048576 (b3z p) < 0
 · simp [num,hz]
 · obtain ⟨hz1,_⟩:=c8e hz (by omega)
   have hs:Z4 1048576 p:=c8y (by omega)
   have hcnt:=c4z p
   have hlen:(idR p kind).length≤1048576:=idR_len p kind
   have hmk:=c4v p 1 hs (by omega)
   obtain ⟨mk,hmk0⟩:∃ m,1+a62 p=m:=⟨_,rfl⟩
   rw [hmk0] at hmk
   have hne1:¬ (mk:Int) < 0:=by omega
   have hm:=b49 (idR p kind) 1 (by omega) hlen
   have hh:=c4f (idR p kind).length 1 (by omega) hlen
   obtain ⟨m1,hm1⟩:∃ m,1+1*(idR p kind).length=m:=⟨_,rfl⟩
   rw [hm1] at hm hh
   have hne2:¬ (m1:Int) < 0:=by omega
   have hsp:=c_IdsOf p kind hs
   have hip:=i_IdsOf p kind hs
   have heq:=c1l (idR p kind) hlen
   have hfl:=a49 (f:=num) (fun _=>rfl) (idR p kind)
   obtain ⟨rw0,hrw⟩:∃ l,(idR p kind).map num=l:=⟨_,rfl⟩
   obtain ⟨rk0,hrk⟩:∃ l,(mkL a26 1 (idR p kind).length 1).map num=l:=⟨_,rfl⟩
   obtain ⟨c0,hc0⟩:∃ c,idC p kind=c:=⟨_,rfl⟩
   rw [hrw,hc0] at hsp hip
   rw [hrw] at heq hm hfl
   rw [hrk] at hm hh
   simp [num,hz,i7]
   refine b7 rfl rfl (.inl rfl) (b30 p hs) ?_
   simp [i7,num]
   refine Y4 rfl rfl (.inl rfl) hsp ?_
   simp [i7,G2,tx,num]
   refine a3n (rs:=[G2 p]) a0n rfl (c1z p hs) (fun k j hk hl=>⟨b1z p k j hl,a6e p k j,a91 p k j⟩) (a9b p) ?_
   simp [i7,tx,num,a30,a0n,PV.kill,Q9,P0,U7,a0r,P2,U8,X0,a2o]
   refine callR (rs:=[G2 p,num kind]) a0n (Q9 p) hip rfl (fun k j hk hT=>?_) (fun k j hk=>⟨a6e p k j,a91 p k j⟩) (fun M hM j hj=>?_) ?_ rfl (by simp [PV.flat,PV.flat.go,RV.flat,num]) ?_ (by omega) (by simp) ?_
   · simp [hk,hT,b10]
   · have:j=0∨j=1:=by simp at hj;omega
     rcases this with rfl | rfl
     · exact b4f p M hM
     · exact .val _
   · intro q hq
     simp only [List.mem_cons,List.not_mem_nil,or_false] at hq
     rcases hq with rfl | rfl
     · exact a9b p
     · exact S4
   · intro q hq x hx
     rw [List.mem_singleton.1 hq] at hx
     exact hfl x hx
   simp [i7,tx,num,PV.shift,PV.shiftL,l4]
   refine b7 rfl rfl (.inr rfl) heq ?_
   simp [i7,tx,num]
   refine A0 rfl rfl (.inl rfl) (b30 p hs) ?_
   simp [i7,tx,num,PV.kill]
   refine callR (rs:=[G2 p,G2 p]) a0n (Q9 p) (d04 p hs) rfl (fun k j hk hT=>?_) (fun k j hk=>⟨a6e p k j,a91 p k j⟩) (fun M hM j hj=>?_) ?_ rfl rfl ?_ (by omega) (by simp) ?_
   · simp [hk,hT,b10]
   · have:j=0∨j=1:=by simp at hj;omega
     rcases this with rfl | rfl
     · exact b4f p M hM
     · exact .val _
   · intro q hq
     simp only [List.mem_cons,List.not_mem_nil,or_false] at hq
     rcases hq with rfl | rfl
     · exact a9b p
     · exact S4
   · intro r hr;cases hr
   simp [i7,tx,num,PV.shift,PV.kill,l4]
   refine c19 (G:=Q9 p) a0n hmk ?_ (fun k j hk hl=>⟨b1z p k j hl,?_,a6e p k j⟩) ?_
   · intro q hq
     simp only [List.mem_cons,List.not_mem_nil,or_false] at hq
     rcases hq with rfl | rfl
     · exact a9b p
     · exact S4
   · have hT:=b1z p k j hl
     simp [hk,hT,b10]
   simp [i7,tx,num,PV.kill,a0n,hne1]
   refine b7 rfl rfl (.inr rfl) heq ?_
   simp [i7,tx,num,PV.kill,hne1,hne2]
   refine b71 rfl rfl rfl rfl hm rfl ?_
   simp [i7,tx,num,PV.kill,hne1,hne2]
   refine b7 rfl rfl (.inr rfl) hh ?_
   simp [i7,tx,num,PV.kill,hne1,hne2]
   refine b7 rfl rfl (.inl rfl) (b30 p hs) ?_
   simp [i7,G2,tx,num,PV.kill]
   refine c2a rfl rfl rfl (.inl rfl) hip ?_
   simp [i7,tx,num,PV.kill,PV.shift,PV.shiftL,l4]
   refine b7 rfl rfl (.inr rfl) heq ?_
   simp [i7,tx,num,PV.kill]
   refine b7 rfl rfl (.inr rfl) hh ?_
   simp [i7,tx,num,PV.kill,hne2]
end Go.Proofs
end
