/- Ff: merged out of KXg, KXi. -/
import Derived.Test.YtgdapgcjmfeocaaGreatDoorFd
import Derived.Test.YtgdapgcjmfeocaaGreatDoorFc
import Derived.Test.YtgdapgcjmfeocaaGreatDoorEq
import Derived.Test.YtgdapgcjmfeocaaGreatDoorBa
set_option linter.unusedSectionVars false
set_option linter.unusedSimpArgs false
set_option linter.unusedVariables false
set_option maxRecDepth 100000
section
namespace Go.Proofs
open Go.PW Go.KP
attribute [local simp] RV.cells RV.one PV.cells PV.solid PV.one im ao kh ke RV.ofCells elems PV.killL
variable [GH]
def yz (log:List LEntry) (kind:Int):Nat→List Int
 | 0=>[]
 | n+1=>yz log kind n++(if (xc log ((n+1:Nat):Int)).getD 0=kind then [((n+1:Nat):Int)] else [])
theorem A0 (log:List LEntry) (kind:Int):∀ n,(yz log kind n).length≤n
 | 0=>Nat.le_refl _
 | n+1=>by
  have:=A0 log kind n
  unfold yz
  split<;>simp<;>omega
def Nk (p:LPipe) (kind:Int):List Int:=yz p.log kind (p.next - 1).toNat
theorem Wp (p:LPipe) (kind:Int) (h:p.next≤4096):(Nk p kind).length≤4095:=by
 have:=A0 p.log kind (p.next - 1).toNat
 unfold Nk;omega
theorem X0 (p:LPipe) (kind:Int) (hb:pi 1048576 p) (hn:p.next≤4096):ag Tryz.prog 57 [.val (ik p),.val (num kind)] (.ret (.val (.list 1 ((Nk p kind).map num))) []) []:=by
 refine aj mixed ok57 rfl (fun _=>rfl) ?_
 unfold ir57
 rw [aa]
 unfold Nk
 obtain ⟨N,hN⟩:∃ N,(p.next - 1).toNat=N:=⟨_,rfl⟩
 rw [hN]
 simp [ah,am,ax,ac,af,ik,tx,num]
 refine ay (X:=Nat) (fun n=>⟨co [(1,.val (num kind)),(2,.ptr 2 0),(5,.own 7),(6,.val (num ((n+1:Nat):Int)))],cu [(2,nu p),(7,.row 3 1 ((yz p.log kind n).map num))]⟩) (fun n=>n≤N) (fun n=>N - n) 0 (Le.mk _ _ ?_ ?_) (Nat.zero_le _) ?_
 · simp [num,PV.kill]
 · simp [yz,nu,tx,num,MObj.kill,PV.kill]
 · intro n hi
   simp [num,nu,tx]
   refine ak (fun h1=>?_) (fun h1=>?_)
   · have hF:=U3 p ((n+1:Nat):Int) hb
     have hln:=A0 p.log kind n
     have hst:yz p.log kind (n+1)=yz p.log kind n++(if (xc p.log ((n+1:Nat):Int)).getD 0=kind then [((n+1:Nat):Int)] else []):=rfl
     have e1:((n+1:Nat):Int)=(n:Int)+1:=by omega
     rw [e1] at hF hst
     simp [num,ao]
     refine ab rfl rfl (.inl rfl) hF ?_
     by_cases hk:(xc p.log ((n:Int)+1)).getD 0=kind
     · rw [if_pos hk] at hst
       simp [num,hk]
       refine ⟨by omega,by omega,?_⟩
       refine LoopNext.mk (n+1) (by omega) (by omega) (Le.mk _ _ ?_ ?_)
       · simp [num];exact wrap_i64 (by omega) (by omega)
       · simp [hst,num,nu,tx]
     · rw [if_neg hk,List.append_nil] at hst
       simp [num,hk]
       refine LoopNext.mk (n+1) (by omega) (by omega) (Le.mk _ _ ?_ ?_)
       · simp [num];exact wrap_i64 (by omega) (by omega)
       · simp [hst,num,nu,tx]
   · have e:n=N:=by omega
     subst e
     simp [num,rf,PV.pl]
theorem i_ids (p:LPipe) (kind:Int) (hb:pi 1048576 p) (hn:p.next≤4096):ag Tryz.prog 61 [.val (ik p),.val (num kind)] (.ret (.own 0) [⟨3,1,(Nk p kind).map num⟩]) []:=by
 refine yv (mk:=fun i=>.own i) mixed ok61 rfl (fun _=>rfl) ?_
 unfold ir61
 rw [aa]
 unfold Nk
 obtain ⟨N,hN⟩:∃ N,(p.next - 1).toNat=N:=⟨_,rfl⟩
 rw [hN]
 simp [ah,am,ax,ac,af,ik,tx,num,ao]
 refine U2 (rs:=[ik p]) (m:=xq p.log) (by omega) rfl (Og p.log) (fun cs h=>by cases h) (i_fates p hb) ?_
 simp [num,M2]
 refine ay (X:=Nat) (fun n=>⟨co [(1,.val (num kind)),(2,.ptr 2 0),(5,.own 9),(6,.own 10),(7,.val (num ((n+1:Nat):Int)))],cu [(2,nu p),(9,xq p.log),(10,.row 3 1 ((yz p.log kind n).map num))]⟩) (fun n=>n≤N) (fun n=>N - n) 0 (Le.mk _ _ ?_ ?_) (Nat.zero_le _) ?_
 · simp [num,PV.kill,M2]
 · simp [yz,nu,tx,num,MObj.kill,PV.kill,M2,xq,A1]
 · intro n hi
   simp [num,nu,tx]
   refine ak (fun h1=>?_) (fun h1=>?_)
   · have hm:=Jy p.log ((n+1:Nat):Int) p.log.length (Nat.le_refl _)
     rw [List.take_length] at hm
     have hln:=A0 p.log kind n
     have hst:yz p.log kind (n+1)=yz p.log kind n++(if (xc p.log ((n+1:Nat):Int)).getD 0=kind then [((n+1:Nat):Int)] else []):=rfl
     have e1:((n+1:Nat):Int)=(n:Int)+1:=by omega
     rw [e1] at hm hst
     have go:∀ z:Int,(xc p.log ((n:Int)+1)).getD 0=z→(xr p.log).2 (.i ((n:Int)+1))=none∧z=0∨(∃ b,(xr p.log).2 (.i ((n:Int)+1))=some (.val (num z),b)):=fun z hz=>by
      rcases hm with ⟨h1,h2⟩ | ⟨b,k,h1,h2⟩
      · rw [h2] at hz;exact .inl ⟨h1,by simpa using hz.symm⟩
      · rw [h2] at hz;simp at hz;subst hz;exact .inr ⟨b,h1⟩
     obtain ⟨z,hz⟩:∃ z,(xc p.log ((n:Int)+1)).getD 0=z:=⟨_,rfl⟩
     rw [hz] at hst
     by_cases hk:z=kind
     · rw [if_pos hk] at hst
       rcases go z hz with ⟨g1,g2⟩ | ⟨b,g1⟩
       · have hk0:(0:Int)=kind:=by omega
         simp [num,xq,g1,hk0]
         refine ⟨by omega,by omega,?_⟩
         refine LoopNext.mk (n+1) (by omega) (by omega) (Le.mk _ _ ?_ ?_)
         · simp [num];exact wrap_i64 (by omega) (by omega)
         · simp [hst,num,nu,tx,xq,A1,MObj.kill,PV.kill]
       · simp [num,xq,g1,hk]
         refine ⟨by omega,by omega,?_⟩
         refine LoopNext.mk (n+1) (by omega) (by omega) (Le.mk _ _ ?_ ?_)
         · simp [num];exact wrap_i64 (by omega) (by omega)
         · simp [hst,num,nu,tx,xq,A1,MObj.kill,PV.kill]
     · rw [if_neg hk,List.append_nil] at hst
       rcases go z hz with ⟨g1,g2⟩ | ⟨b,g1⟩
       · have hk0:¬ (0:Int)=kind:=by omega
         simp [num,xq,g1,hk0]
         refine LoopNext.mk (n+1) (by omega) (by omega) (Le.mk _ _ ?_ ?_)
         · simp [num];exact wrap_i64 (by omega) (by omega)
         · simp [hst,num,nu,tx,xq]
       · simp [num,xq,g1,hk]
         refine LoopNext.mk (n+1) (by omega) (by omega) (Le.mk _ _ ?_ ?_)
         · simp [num];exact wrap_i64 (by omega) (by omega)
         · simp [hst,num,nu,tx,xq]
   · have e:n=N:=by omega
     subst e
     simp [num]
def acC (p:LPipe):Int:=if lq p then (if p.next≤4096 then 0 else 6) else 1
theorem X1 (p:LPipe) (hb:pi 1048576 p):ag Tryz.prog 46 [.val (ik p)] (.ret (.val (num (acC p))) []) []:=by
 refine aj mixed ok46 rfl (fun _=>rfl) ?_
 unfold ir46
 rw [aa]
 unfold acC
 simp [ah,am,ax,ac,af,ik,tx,num,ao]
 refine ab rfl rfl (.inl rfl) (c_l08OK p hb) ?_
 cases hok:lq p with
 | false=>simp [num]
 | true=>
  simp [num]
  by_cases h:p.next≤4096
  · have h':¬ 4096 < p.next:=by omega
    simp [num,h,h']
  · have h':4096 < p.next:=by omega
    simp [num,h,h']
theorem T8 (p:LPipe) (hb:pi 1048576 p):ag Tryz.prog 48 [.val (ik p)] (.ret (.val (num (acC p))) []) []:=by
 refine aj mixed ok48 rfl (fun _=>rfl) ?_
 unfold ir48
 rw [aa]
 have hf:=Sp [if lq p then 0 else 1,if p.next≤4096 then 0 else 6] (by simp)
 have hr:ug [if lq p then 0 else 1,if p.next≤4096 then 0 else 6]=acC p:=by
  unfold acC
  cases lq p<;>by_cases h:p.next≤4096<;>simp [ug,h]
 rw [hr] at hf
 simp [ah,am,ax,ac,af,ik,tx,num,ao]
 refine em rfl rfl (.inl rfl) (Xf p hb) ?_
 simp [num]
 refine em rfl rfl (.inl rfl) (Db (lq p) 1) ?_
 simp [num]
 refine ab rfl rfl (.inl rfl) (Db (decide (p.next≤4096)) 6) ?_
 simp [num]
 refine ab rfl rfl (.inr rfl) hf ?_
 simp [num]
theorem Io {p:LPipe} (h:acC p=0):lq p=true∧p.next≤4096:=by
 unfold acC at h
 cases hok:lq p with
 | false=>rw [hok] at h;simp at h
 | true=>
  rw [hok] at h
  by_cases h2:p.next≤4096
  · exact ⟨rfl,h2⟩
  · simp [h2] at h
def idC (p:LPipe) (kind:Int):Int:=if acC p=0 then (if 1≤kind∧kind≤7 then 0 else 9) else acC p
def idR (p:LPipe) (kind:Int):List Int:=if idC p kind=0 then Nk p kind else []
theorem Nx {p:LPipe} {kind:Int} (h:idC p kind=0):acC p=0∧1≤kind∧kind≤7:=by
 unfold idC at h
 by_cases h1:acC p=0
 · rw [if_pos h1] at h
   by_cases h2:1≤kind∧kind≤7
   · exact ⟨h1,h2⟩
   · rw [if_neg h2] at h;cases h
 · rw [if_neg h1] at h;exact absurd h h1
theorem idR_len (p:LPipe) (kind:Int):(idR p kind).length≤1048576:=by
 unfold idR
 by_cases h:idC p kind=0
 · rw [if_pos h]
   have:=Wp p kind (Io (Nx h).1).2
   omega
 · rw [if_neg h];simp
theorem c_IdsOf (p:LPipe) (kind:Int) (hb:pi 1048576 p):ag Tryz.prog 22 [.val (ik p),.val (num kind)] (.ret (.tup [.val (.list 1 ((idR p kind).map num)),.val (num (idC p kind))]) []) []:=by
 refine aj mixed ok22 rfl (fun _=>rfl) ?_
 unfold ir22
 rw [aa]
 simp [ah,am,ax,ac,af,ik,tx,num,ao]
 refine ab rfl rfl (.inl rfl) (X1 p hb) ?_
 by_cases hac:acC p=0
 · have hn:=(Io hac).2
   simp [num,hac]
   refine ab rfl rfl (.inl rfl) (nh .i64 kind 1 7) ?_
   by_cases hk:1≤kind∧kind≤7
   · have e1:idC p kind=0:=by unfold idC;rw [if_pos hac,if_pos hk]
     have e2:idR p kind=Nk p kind:=by unfold idR;rw [if_pos e1]
     simp [num,hk,ao]
     refine ab rfl rfl (.inl rfl) (X0 p kind hb hn) ?_
     simp [num,e1,e2]
   · have e1:idC p kind=9:=by unfold idC;rw [if_pos hac,if_neg hk]
     have e2:idR p kind=[]:=by unfold idR;rw [if_neg (by omega)]
     simp [num,hk,rf,PV.pl,e1,e2]
 · have e1:idC p kind=acC p:=by unfold idC;rw [if_neg hac]
   have e2:idR p kind=[]:=by unfold idR;rw [if_neg (by omega)]
   simp [num,hac,rf,PV.pl,e1,e2]
theorem i_IdsOf (p:LPipe) (kind:Int) (hb:pi 1048576 p):ag Tryz.prog 23 [.val (ik p),.val (num kind)] (.ret (.tup [.own 0,.val (num (idC p kind))]) [⟨3,1,(idR p kind).map num⟩]) []:=by
 refine Xz (mk:=fun i=>.tup [.own i,.val (num (idC p kind))]) mixed ok23 rfl (fun _=>rfl) ?_
 unfold ir23
 rw [aa]
 have hw:=mc kind 1 7
 obtain ⟨b,hbk⟩:∃ b,decide (1≤kind∧kind≤7)=b:=⟨_,rfl⟩
 rw [hbk] at hw
 have hf:=Sp [acC p,if b then 0 else 9] (by simp)
 have hr:ug [acC p,if b then 0 else 9]=idC p kind:=by
  unfold idC
  rw [← hbk]
  by_cases h:acC p=0
  · by_cases h2:1≤kind∧kind≤7<;>simp [ug,h,h2]
  · simp [ug,h]
 rw [hr] at hf
 simp [ah,am,ax,ac,af,ik,tx,num,ao]
 refine ab rfl rfl (.inl rfl) (T8 p hb) ?_
 simp [num]
 refine ab rfl rfl (.inl rfl) hw ?_
 simp [num]
 refine ab rfl rfl (.inl rfl) (Db b 9) ?_
 simp [num]
 refine ab rfl rfl (.inr rfl) hf ?_
 unfold idR
 by_cases hz:idC p kind=0
 · have hn:=(Io (Nx hz).1).2
   simp [num,hz,ao]
   refine O3 rfl rfl rfl (.inl rfl) (i_ids p kind hb hn) ?_
   simp [num,bj,PV.shift]
   exact V1 20000 (by simp) (by simp [hz,num]) (by simp [hz])
 · simp [num,hz]
   exact V2 1 4 (by omega) (.inl (by omega)) (by omega) (by simp) (by simp)
end Go.Proofs
end
section
namespace Go.Proofs
open Go.PW Go.KP
attribute [local simp] RV.cells RV.one PV.cells PV.solid PV.one im ao kh ke RV.ofCells elems PV.killL
variable [GH]
attribute [local simp] y6 Fn M4 M5 M3 Jo vp Hz B0 J5 Ek Ip Cm dK_lo dK_DN dM_lo dM_DN inR ep
theorem Tu (p:LPipe) (kind:Int) (hb:pi 9223372036854775807 p):ag Tryz.prog 6 [.val (ik p),.val (num kind)] (.ret (.val (.bool true)) []) []:=by
 refine aj mixed ok6 rfl (fun _=>rfl) ?_
 unfold ir6
 rw [aa]
 simp [ah,am,ax,ac,af,ik,tx,num,ao]
 refine ab rfl rfl (.inl rfl) (Xk p 1048576 (by omega) (by omega) hb) ?_
 by_cases hz:cut 1048576 (Ga p) < 0
 · simp [num,hz]
 · obtain ⟨hz1,_⟩:=Uz hz (by omega)
   have hs:pi 1048576 p:=Vj (by omega)
   have hcnt:=Rp p
   have hlen:(idR p kind).length≤1048576:=idR_len p kind
   have hmk:=Rl p 1 hs (by omega)
   obtain ⟨mk,hmk0⟩:∃ m,1+yr p=m:=⟨_,rfl⟩
   rw [hmk0] at hmk
   have hne1:¬ (mk:Int) < 0:=by omega
   have hm:=Hj (idR p kind) 1 (by omega) hlen
   have hh:=Q5 (idR p kind).length 1 (by omega) hlen
   obtain ⟨m1,hm1⟩:∃ m,1+1*(idR p kind).length=m:=⟨_,rfl⟩
   rw [hm1] at hm hh
   have hne2:¬ (m1:Int) < 0:=by omega
   have hsp:=c_IdsOf p kind hs
   have hip:=i_IdsOf p kind hs
   have heq:=Od (idR p kind) hlen
   have hfl:=wm (f:=num) (fun _=>rfl) (idR p kind)
   obtain ⟨rw0,hrw⟩:∃ l,(idR p kind).map num=l:=⟨_,rfl⟩
   obtain ⟨rk0,hrk⟩:∃ l,(mkL ua 1 (idR p kind).length 1).map num=l:=⟨_,rfl⟩
   obtain ⟨c0,hc0⟩:∃ c,idC p kind=c:=⟨_,rfl⟩
   rw [hrw,hc0] at hsp hip
   rw [hrw] at heq hm hfl
   rw [hrk] at hm hh
   simp [num,hz,ao]
   refine ab rfl rfl (.inl rfl) (Gb p hs) ?_
   simp [ao,num]
   refine o5 rfl rfl (.inl rfl) hsp ?_
   simp [ao,ik,tx,num]
   refine uu (rs:=[ik p]) qe rfl (Or p hs) (fun k j hk hl=>⟨Dx p k j hl,x5 p k j,Bv p k j⟩) (A5 p) ?_
   simp [ao,tx,num,u5,qe,PV.kill,mb,lr,nv,qi,lu,nw,oo,tm]
   refine callR (rs:=[ik p,num kind]) qe (mb p) hip rfl (fun k j hk hT=>?_) (fun k j hk=>⟨x5 p k j,Bv p k j⟩) (fun M hM j hj=>?_) ?_ rfl (by simp [PV.flat,PV.flat.go,RV.flat,num]) ?_ (by omega) (by simp) ?_
   · simp [hk,hT,Dy]
   · have:j=0∨j=1:=by simp at hj;omega
     rcases this with rfl | rfl
     · exact Gq p M hM
     · exact .val _
   · intro q hq
     simp only [List.mem_cons,List.not_mem_nil,or_false] at hq
     rcases hq with rfl | rfl
     · exact A5 p
     · exact mv
   · intro q hq x hx
     rw [List.mem_singleton.1 hq] at hx
     exact hfl x hx
   simp [ao,tx,num,PV.shift,PV.shiftL,bj]
   refine ab rfl rfl (.inr rfl) heq ?_
   simp [ao,tx,num]
   refine em rfl rfl (.inl rfl) (Gb p hs) ?_
   simp [ao,tx,num,PV.kill]
   refine callR (rs:=[ik p,ik p]) qe (mb p) (Xp p hs) rfl (fun k j hk hT=>?_) (fun k j hk=>⟨x5 p k j,Bv p k j⟩) (fun M hM j hj=>?_) ?_ rfl rfl ?_ (by omega) (by simp) ?_
   · simp [hk,hT,Dy]
   · have:j=0∨j=1:=by simp at hj;omega
     rcases this with rfl | rfl
     · exact Gq p M hM
     · exact .val _
   · intro q hq
     simp only [List.mem_cons,List.not_mem_nil,or_false] at hq
     rcases hq with rfl | rfl
     · exact A5 p
     · exact mv
   · intro r hr;cases hr
   simp [ao,tx,num,PV.shift,PV.kill,bj]
   refine O2 (G:=mb p) qe hmk ?_ (fun k j hk hl=>⟨Dx p k j hl,?_,x5 p k j⟩) ?_
   · intro q hq
     simp only [List.mem_cons,List.not_mem_nil,or_false] at hq
     rcases hq with rfl | rfl
     · exact A5 p
     · exact mv
   · have hT:=Dx p k j hl
     simp [hk,hT,Dy]
   simp [ao,tx,num,PV.kill,qe,hne1]
   refine ab rfl rfl (.inr rfl) heq ?_
   simp [ao,tx,num,PV.kill,hne1,hne2]
   refine Kd rfl rfl rfl rfl hm rfl ?_
   simp [ao,tx,num,PV.kill,hne1,hne2]
   refine ab rfl rfl (.inr rfl) hh ?_
   simp [ao,tx,num,PV.kill,hne1,hne2]
   refine ab rfl rfl (.inl rfl) (Gb p hs) ?_
   simp [ao,ik,tx,num,PV.kill]
   refine O3 rfl rfl rfl (.inl rfl) hip ?_
   simp [ao,tx,num,PV.kill,PV.shift,PV.shiftL,bj]
   refine ab rfl rfl (.inr rfl) heq ?_
   simp [ao,tx,num,PV.kill]
   refine ab rfl rfl (.inr rfl) hh ?_
   simp [ao,tx,num,PV.kill,hne2]
end Go.Proofs
end
