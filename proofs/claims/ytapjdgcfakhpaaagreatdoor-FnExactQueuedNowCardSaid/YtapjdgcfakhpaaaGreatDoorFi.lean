/- Fi: merged out of KXs, KXv. -/
import Derived.Test.YtapjdgcfakhpaaaGreatDoorFg
import Derived.Test.YtapjdgcfakhpaaaGreatDoorEg
set_option linter.unusedSectionVars false
set_option linter.unusedSimpArgs false
set_option linter.unusedVariables false
set_option maxRecDepth 100000
section
namespace Go.Proofs
open Go.PW Go.KP
attribute [local simp] RV.cells RV.one PV.cells PV.solid PV.one G1 i6 L8 K7 RV.ofCells elems PV.killL
variable [GH]
def qnC (p:LPipe):Int:=if O7 p then 0 else 1
def qnR (p:LPipe):List Int:=if O7 p then b1d p.channels else []
theorem c2t (p:LPipe) (hb:a1c 1048576 p):d8 Tryz.prog 14 [.val (L4 p)] (.ret (.tup [.val (.list 1 ((qnR p).map num)),.val (num (qnC p))]) []) []:=by
 refine f6 mixed ok14 rfl (fun _=>rfl) ?_
 unfold ir14
 rw [b6]
 unfold qnR qnC
 simp [d9,f9,j8,b8,d7,L4,tx,num,i6]
 refine b7 rfl rfl (.inl rfl) (c_l08OK p hb) ?_
 cases hok:O7 p with
 | false=>simp [num,Z3,PV.pl]
 | true=>
  obtain ⟨hq,hc5⟩:=ok_channels hok
  simp [num,i6]
  refine b7 rfl rfl (.inl rfl) (d1t p hb hq hc5) ?_
  simp [num]
theorem c1s (p:LPipe) (hb:a1c 1048576 p):d8 Tryz.prog 15 [.val (L4 p)] (.ret (.tup [.own 0,.val (num (qnC p))]) [⟨3,1,(qnR p).map num⟩]) []:=by
 refine d1r (mk:=fun i=>.tup [.own i,.val (num (qnC p))]) mixed ok15 rfl (fun _=>rfl) ?_
 unfold ir15
 rw [b6]
 unfold qnR qnC
 have h8:srt (a6w p)=b1d p.channels:=(b7v p).symm
 simp [d9,f9,j8,b8,d7,L4,tx,num,i6]
 refine b7 rfl rfl (.inl rfl) (d06 p hb) ?_
 cases hok:O7 p with
 | false=>
  simp [num]
  exact c9v 1 4 (by omega) (.inl (by omega)) (by omega) (by simp) (by simp)
 | true=>
  obtain ⟨hq,hc5⟩:=ok_channels hok
  simp [num,i6]
  refine c2o rfl rfl rfl (.inl rfl) (d01 p hb hq hc5) ?_
  simp [num,l3,PV.shift,h8]
  exact c9u 9000 (by simp) (by simp) (by simp)
theorem qnR_len (p:LPipe):(qnR p).length≤1048576:=by
 unfold qnR
 cases hok:O7 p with
 | false=>simp
 | true=>
  obtain ⟨hq,hc5⟩:=ok_channels hok
  have h5:=lq_len p.channels hq
  have h6:(b1d p.channels).length=(a6w p).length:=by rw [b7v];exact List.length_mergeSort _
  have h7:a6w p=lq p.channels:=rfl
  simp only [if_true]
  rw [h6,h7];omega
end Go.Proofs
end
section
namespace Go.Proofs
open Go.PW Go.KP
attribute [local simp] RV.cells RV.one PV.cells PV.solid PV.one G1 i6 L8 K7 RV.ofCells elems PV.killL
variable [GH]
attribute [local simp] a6k b1q b7o b7p b7n b4y a3z b2g a74 b6l b0r b2o a8t dK_lo dK_DN dM_lo dM_DN inR A1
theorem b6z (p:LPipe) (hb:a1c 9223372036854775807 p):d8 Tryz.prog 4 [.val (L4 p)] (.ret (.val (.bool true)) []) []:=by
 refine f6 mixed ok4 rfl (fun _=>rfl) ?_
 unfold ir4
 rw [b6]
 simp [d9,f9,j8,b8,d7,L4,tx,num,i6]
 refine b7 rfl rfl (.inl rfl) (d1b p 1048576 (by omega) (by omega) hb) ?_
 by_cases hz:cut 1048576 (b37 p) < 0
 · simp [num,hz]
 · obtain ⟨hz1,_⟩:=c8w hz (by omega)
   have hs:a1c 1048576 p:=c9g (by omega)
   have hcnt:=c5j p
   have hlen:(qnR p).length≤1048576:=qnR_len p
   have hmk:=c5f p 1 hs (by omega)
   obtain ⟨mk,hmk0⟩:∃ m,1+a66 p=m:=⟨_,rfl⟩
   rw [hmk0] at hmk
   have hne1:¬ (mk:Int) < 0:=by omega
   have hm:=b5k (qnR p) 1 (by omega) hlen
   have hh:=c4y (qnR p).length 1 (by omega) hlen
   obtain ⟨m1,hm1⟩:∃ m,1+1*(qnR p).length=m:=⟨_,rfl⟩
   rw [hm1] at hm hh
   have hne2:¬ (m1:Int) < 0:=by omega
   have hsp:=c2t p hs
   have hip:=c1s p hs
   have heq:=c13 (qnR p) hlen
   have hfl:=a49 (f:=num) (fun _=>rfl) (qnR p)
   obtain ⟨rw0,hrw⟩:∃ l,(qnR p).map num=l:=⟨_,rfl⟩
   obtain ⟨rk0,hrk⟩:∃ l,(mkL a27 1 (qnR p).length 1).map num=l:=⟨_,rfl⟩
   obtain ⟨c0,hc0⟩:∃ c,qnC p=c:=⟨_,rfl⟩
   rw [hrw,hc0] at hsp hip
   rw [hrw] at heq hm hfl
   rw [hrk] at hm hh
   simp [num,hz,i6]
   refine b7 rfl rfl (.inl rfl) (b38 p hs) ?_
   simp [i6,num]
   refine Y3 rfl rfl (.inl rfl) hsp ?_
   simp [i6,L4,tx,num]
   refine a3p (rs:=[L4 p]) a0n rfl (c2e p hs) (fun k j hk hl=>⟨b15 p k j hl,a6d p k j,a94 p k j⟩) (a9e p) ?_
   simp [i6,tx,num,a31,a0n,PV.kill,R0,O9,U5,a0q,P1,U7,W9,a2p]
   refine callR (rs:=[L4 p]) a0n (R0 p) hip rfl (fun k j hk hT=>?_) (fun k j hk=>⟨a6d p k j,a94 p k j⟩) (fun M hM j hj=>?_) ?_ rfl (by simp [PV.flat,PV.flat.go,RV.flat,num]) ?_ (by omega) (by simp) ?_
   · simp [hk,hT,b16]
   · have:j=0:=by simp at hj;omega
     subst this
     exact b4n p M hM
   · intro q hq
     simp only [List.mem_cons,List.not_mem_nil,or_false] at hq
     subst hq
     exact a9e p
   · intro q hq x hx
     rw [List.mem_singleton.1 hq] at hx
     exact hfl x hx
   simp [i6,tx,num,PV.shift,PV.shiftL,l3]
   refine b7 rfl rfl (.inr rfl) heq ?_
   simp [i6,tx,num]
   refine A0 rfl rfl (.inl rfl) (b38 p hs) ?_
   simp [i6,tx,num,PV.kill]
   refine callR (rs:=[L4 p,L4 p]) a0n (R0 p) (d1g p hs) rfl (fun k j hk hT=>?_) (fun k j hk=>⟨a6d p k j,a94 p k j⟩) (fun M hM j hj=>?_) ?_ rfl rfl ?_ (by omega) (by simp) ?_
   · simp [hk,hT,b16]
   · have:j=0∨j=1:=by simp at hj;omega
     rcases this with rfl | rfl
     · exact b4n p M hM
     · exact .val _
   · intro q hq
     simp only [List.mem_cons,List.not_mem_nil,or_false] at hq
     rcases hq with rfl | rfl
     · exact a9e p
     · exact S5
   · intro r hr;cases hr
   simp [i6,tx,num,PV.shift,PV.kill,l3]
   refine c2n (G:=R0 p) a0n hmk ?_ (fun k j hk hl=>⟨b15 p k j hl,?_,a6d p k j⟩) ?_
   · intro q hq
     simp only [List.mem_cons,List.not_mem_nil,or_false] at hq
     rcases hq with rfl | rfl
     · exact a9e p
     · exact S5
   · have hT:=b15 p k j hl
     simp [hk,hT,b16]
   simp [i6,tx,num,PV.kill,a0n,hne1]
   refine b7 rfl rfl (.inr rfl) heq ?_
   simp [i6,tx,num,PV.kill,hne1,hne2]
   refine b8g rfl rfl rfl rfl hm rfl ?_
   simp [i6,tx,num,PV.kill,hne1,hne2]
   refine b7 rfl rfl (.inr rfl) hh ?_
   simp [i6,tx,num,PV.kill,hne1,hne2]
   refine b7 rfl rfl (.inl rfl) (b38 p hs) ?_
   simp [i6,L4,tx,num,PV.kill]
   refine c2o rfl rfl rfl (.inl rfl) hip ?_
   simp [i6,tx,num,PV.kill,PV.shift,PV.shiftL,l3]
   refine b7 rfl rfl (.inr rfl) heq ?_
   simp [i6,tx,num,PV.kill]
   refine b7 rfl rfl (.inr rfl) hh ?_
   simp [i6,tx,num,PV.kill,hne2]
end Go.Proofs
end
