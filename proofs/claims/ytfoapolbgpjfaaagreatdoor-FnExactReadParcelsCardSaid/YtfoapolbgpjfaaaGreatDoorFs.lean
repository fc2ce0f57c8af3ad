/- Fs: merged out of KXba, KXbb. -/
import Derived.Test.YtfoapolbgpjfaaaGreatDoorFc
import Derived.Test.YtfoapolbgpjfaaaGreatDoorAc
import Derived.Test.YtfoapolbgpjfaaaGreatDoorCa
import Derived.Test.YtfoapolbgpjfaaaGreatDoorBa
import Derived.Test.YtfoapolbgpjfaaaGreatDoorFo
import Derived.Test.YtfoapolbgpjfaaaGreatDoorPWae
import Derived.Test.YtfoapolbgpjfaaaGreatDoorPWaf
set_option linter.unusedSectionVars false
set_option linter.unusedSimpArgs false
set_option linter.unusedVariables false
set_option maxRecDepth 100000
section
namespace Go.Proofs
open Go.PW Go.KP
attribute [local simp] RV.cells RV.one PV.cells PV.solid PV.one L2 a6 M6 M8 RV.ofCells elems PV.killL
variable [GF]
theorem b44 (x:LParcel) (hx:a5w 1048576 x):v7 Tryz.prog 62 [.val (H9 x),.val (H9 x)] (.ret (.val (.bool true)) []) []:=by
 refine I1 mixed ok62 rfl (fun _=>rfl) ?_
 unfold ir62
 rw [b7]
 unfold a5w at hx
 have b0:=hx
 simp [f5,D5,L6,a7,c8,H9,tx,num,a6]
theorem b3c (l:List LParcel) (hx:bdS 1048576 (a5w 1048576) l):v7 Tryz.prog 13 [.val (.list 3 (l.map H9)),.val (.list 3 (l.map H9))] (.ret (.val (.bool true)) []) []:=by
 refine I1 mixed ok13 rfl (fun _=>rfl) ?_
 unfold ir13
 rw [b7]
 have hl:l.length≤1048576:=hx.1
 simp [f5,D5,L6,a7,c8,num]
 refine O8 (X:=Nat) (fun i=>⟨P4 [(0,.val (.list 3 (l.map H9))),(1,.val (.list 3 (l.map H9))),(5,.val (num i))],O7 []⟩) (fun i=>i≤l.length) (fun i=>l.length - i) 0 (Le.mk _ _ ?_ ?_) ?_ ?_
 · simp [upd,num,PV.kill]
 · simp
 · simp
 · intro i hi
   simp [num]
   refine O6 (fun h1=>?_) (fun h1=>?_)
   · have e1:(l.map H9)[i]?.getD .nilptr=H9 l[i]:=by simp [List.getElem?_eq_getElem h1]
     simp [num,h1,e1,H9,tx]
     refine v6 rfl rfl (.inl rfl) (b44 l[i] (hx.2 _ (List.getElem_mem h1))) ?_
     simp
     refine LoopNext.mk (i+1) (by omega) (by omega) (Le.mk _ _ ?_ ?_)
     · simp [num];exact wrap_i64 (by omega) (by omega)
     · simp
   · simp
theorem b1g {K:Kx (PExit→St→Prop)} (xs:List RV) (k i:Nat) (a0 a1 a2:RV) (hi:i < xs.length) (hk:k < 549755813888) (hl:xs.length < 1099511627776) (hx:xs[i]?.getD .nilptr=.agg [a0,a1,a2])
 (hn:∀ st':St,st'.env 0=.own 900→st'.env 1=.val (num ((k+3:Nat):Int))→st'.env 5=.val (num ((i+1:Nat):Int))→st'.mem 900=.row 94 3 (xs.set i (H9 (Q0 k)))→K.k .normal st') :
 EC Tryz.prog ir14_l6 ⟨P4 [(0,.own 900),(1,.val (num k)),(5,.val (num i))],O7 [(900,.row 94 3 xs)]⟩ (K:=K):=by
 unfold ir14_l6
 have s1:IntKind.i64.wrap ((k:Int)+1)=(k:Int)+1:=wrap_i64 (by omega) (by omega)
 have s2:IntKind.i64.wrap ((k:Int)+1+1)=(k:Int)+1+1:=wrap_i64 (by omega) (by omega)
 have c1:((k+1:Nat):Int)=(k:Int)+1:=by omega
 have s3:IntKind.i64.wrap ((k:Int)+1+1+1)=(k:Int)+1+1+1:=wrap_i64 (by omega) (by omega)
 have c2:((k+2:Nat):Int)=(k:Int)+1+1:=by omega
 have hmk2:v7 Tryz.prog 63 [.val (.int .i64 ((k:Int)+1+1))] (.ret (.val (.str (bs (lmk (k+2))))) []) []:=by
  have h:=a89 (k+2) (by omega)
  unfold num tx at h
  rwa [c2] at h
 have si:IntKind.i64.wrap ((i:Int)+1)=(i:Int)+1:=wrap_i64 (by omega) (by omega)
 have hx':xs[i]=.agg [a0,a1,a2]:=by rw [← hx];simp [List.getElem?_eq_getElem hi]
 simp [num,hi,hx,s1,s2,s3]
 refine v6 rfl rfl (.inl rfl) hmk2 ?_
 simp [num,hi,hx,tx,s1,s2,s3]
 refine hn _ ?_ ?_ ?_ ?_
 · simp
 · simp only [t7,D1,u0,C9,u1,l8,t8,D0,f6,w7,D9,E1,b9,l3,l4,d7,u2,l7,d9,C8,t6,l6,l5,B0,B1,Q9,R0,Option.getD_some,Option.getD_none,z6,n0,k7,A7,k6,j4,A9,j5,A8,A6,A5,E5,r7,j8,A3,r5,j7,A2,y9,A4,r6,A0,j3,r4,A1,E7,E6,z1,z7,j6,z8,r8,j9,x1,f8,y8,y7,y6,E2,p9,i6,x8,p7,f9,x7,w8,x9,p8,x5,f7,p6,x6,E4,E3,w9,o9,i8,x4,q7,i7,G5,G4,H6,G6,H0,G8,G7,H5,G9,H1,H2,H3,H4,u5,u4,u3,I3,I4,I2,D2,n7,B5,s0,H8,l9,L9,I7,I0,J8,K2,J9,M1,M2,F5,F7,F6,F8,F9,J5,s5,J4,B6,B7,B8,s6,R1,C5,s9,L7,L8,E8,I5,I6,Option.map_some,Option.map_none,B9,s7,r9,k8,B3,B4,F0,E9,K7,K6,G3,C6,C7,G0,K3,K4,F1,l1,F2,k9,J0,C4,C3,d8,J7,K5,F4,J1,J3,J2,s4,v8,w6,w5,d3,J6,M4,M3,I8,F3,N9,I9,l2,C1,C2,s8,C0,d6,n9,d5,o0,d4,H7,K8,K9,u6,u7,D4,D3,B2,I2,s1,s2,s3,num]
   simp
   try omega
 · simp [num,si]
 · simp [hi,hx,hx']
   try simp [s1,s2,s3,c1,c2,H9,Q0,num,tx]
theorem a9z (l:List LParcel) (k:Nat) (hk:k < 8388608) (hl:l.length≤1048576):a7j Tryz.prog 14 (.own 0) 94 3 (l.map H9) [.val (num k)] (num ((k+3*l.length:Nat):Int)) ((mkL Q0 3 l.length k).map H9):=by
 refine b5j mixed ok14 rfl ?_
 unfold ir14
 rw [b7]
 simp [f5,D5,L6,a7,c8,T8,PV.nm,num]
 refine O8 (X:=Nat) (fun i=>⟨P4 [(0,.own 900),(1,.val (num ((k+3*i:Nat):Int))),(5,.val (num i))],O7 [(900,.row 94 3 ((mkU Q0 3 l k i).map H9))]⟩) (fun i=>i≤l.length) (fun i=>l.length - i) 0 (Le.mk _ _ ?_ ?_) (Nat.zero_le _) ?_
 · simp [upd,num,PV.kill]
 · simp [b8z]
 · intro i hi
   have hml:=mkU_len Q0 3 l k i hi
   by_cases h1:i < l.length
   · have hmi:i < (mkU Q0 3 l k i).length:=by omega
     have hset:=mkU_set Q0 3 l k i h1
     refine b1g ((mkU Q0 3 l k i).map H9) (k+3*i) i (num (mkU Q0 3 l k i)[i].id) (num (mkU Q0 3 l k i)[i].age) (tx (mkU Q0 3 l k i)[i].body) (by simpa using hmi) (by omega) (by simp;omega) (by simp [List.getElem?_eq_getElem hmi,H9]) (fun st' q0 q1 q5 qm=>?_)
     simp
     refine LoopNext.mk (i+1) h1 (by omega) (Le.mk _ _ ?_ ?_)
     · simp [q0,q1,q5,num]
       omega
     · rw [← List.map_set,hset] at qm
       simp [qm]
   · have e:i=l.length:=by omega
     subst e
     unfold ir14_l6
     simp [num,hml,mkU_all,a02]
theorem a90 (n k:Nat) (hk:k < 8388608) (hl:n≤1048576):v7 Tryz.prog 15 [.val (.list 3 ((mkL Q0 3 n k).map H9)),.val (num k)] (.ret (.val (num ((k+3*n:Nat):Int))) []) []:=by
 refine I1 mixed ok15 rfl (fun _=>rfl) ?_
 unfold ir15
 rw [b7]
 have hlen:=a02 Q0 3 n k
 simp [f5,D5,L6,a7,c8,num]
 refine O8 (X:=Nat) (fun i=>⟨P4 [(0,.val (.list 3 ((mkL Q0 3 n k).map H9))),(1,.val (num ((k+3*i:Nat):Int))),(5,.val (num i))],O7 []⟩) (fun i=>i≤n) (fun i=>n - i) 0 (Le.mk _ _ ?_ ?_) (Nat.zero_le _) ?_
 · simp [upd,num,PV.kill]
 · simp
 · intro i hi
   unfold ir15_l6
   by_cases h1:i < n
   · have hi':i < (mkL Q0 3 n k).length:=by omega
     have hat:(mkL Q0 3 n k)[i]=Q0 (k+3*i):=mkL_at h1
     have e1:((mkL Q0 3 n k).map H9)[i]?.getD .nilptr=H9 (Q0 (k+3*i)):=by simp [List.getElem?_eq_getElem hi',hat]
     generalize hj:k+3*i=j at *
     have hjj:j < 1099511627776:=by omega
     have s1:IntKind.i64.wrap ((j:Int)+1)=((j+1:Nat):Int):=by rw [wrap_i64 (by omega) (by omega)];omega
     have s2:IntKind.i64.wrap (((j+1:Nat):Int)+1)=((j+2:Nat):Int):=by rw [wrap_i64 (by omega) (by omega)];omega
     have s3:IntKind.i64.wrap (((j+2:Nat):Int)+1)=((j+3:Nat):Int):=by rw [wrap_i64 (by omega) (by omega)];omega
     have si:IntKind.i64.wrap ((i:Int)+1)=((i+1:Nat):Int):=by rw [wrap_i64 (by omega) (by omega)];omega
     have hmk2:v7 Tryz.prog 63 [.val (.int .i64 ((j+2:Nat):Int))] (.ret (.val (.str (bs (lmk (j+2))))) []) []:=a89 (j+2) (by omega)
     have hat2:Q0 j=⟨(j:Int),((j+1:Nat):Int),lmk (j+2)⟩:=rfl
     generalize hj1:((j+1:Nat):Int)=j1 at *
     generalize hj2:((j+2:Nat):Int)=j2 at *
     simp [num,a02,h1,e1,hat,hat2,H9,tx,s1,s2,s3,si]
     refine S5 rfl rfl (.inl rfl) hmk2 ?_
     simp [num,a02,h1,e1,hat,hat2,H9,tx,s1,s2,s3,si]
     refine LoopNext.mk (i+1) h1 (by omega) (Le.mk _ _ ?_ ?_)
     · simp [num,s1,s2,s3,si]
       omega
     · simp
   · have e:i=n:=by omega
     subst e
     simp [num,a02]
end Go.Proofs
end
section
namespace Go.Proofs
open Go.PW Go.KP
attribute [local simp] RV.cells RV.one PV.cells PV.solid PV.one L2 a6 M6 M8 RV.ofCells elems PV.killL
variable [GH]
theorem pOf_bd {x:LJson} (h:(pOf x).2=true):(pOf x).1.body.length≤8000:=by
 unfold pOf at h ⊢
 by_cases hT:b8u x=true
 · rw [if_pos hT] at h ⊢
   unfold b0c pOK at h
   simp only [Bool.and_eq_true,decide_eq_true_eq] at h
   exact h.2.2.1
 · rw [if_neg hT] at h;cases h
theorem b8e (t:Tx):(rpR t).length≤3∧∀ p∈rpR t,p.body.length≤8000:=by
 unfold rpR rp
 split
 · exact ⟨Nat.zero_le _,by simp⟩
 split
 · exact ⟨Nat.zero_le _,by simp⟩
 split
 · exact ⟨Nat.zero_le _,by simp⟩
 split
 · rename_i h3 ha
   refine ⟨by simp;omega,fun p hp=>?_⟩
   obtain ⟨x,hx,rfl⟩:=List.mem_map.1 hp
   exact pOf_bd (List.all_eq_true.1 ha x hx)
 · exact ⟨Nat.zero_le _,by simp⟩
theorem rpR_bdS (t:Tx):bdS 1048576 (a5w 1048576) (rpR t):=by
 obtain ⟨h1,h2⟩:=b8e t
 exact ⟨by omega,fun p hp=>Nat.le_trans (h2 p hp) (by omega)⟩
theorem a68 (t:Tx) (hb:t.length≤9223372036854775807):v7 Tryz.prog 3 [.val (tx t)] (.ret (.val (.bool true)) []) []:=by
 refine I1 mixed ok3 rfl (fun _=>rfl) ?_
 unfold ir3
 rw [b7]
 by_cases hz:t.length≤1048576
 · have hz':¬ (1048576:Int) < (t.length:Int):=by omega
   have hsp:=a93 t hz
   have hip:=a9y t
   have hlen:(rpR t).length≤1048576:=by have:=(b8e t).1;omega
   have heq:=b3c (rpR t) (rpR_bdS t)
   have hm:=a9z (rpR t) 1 (by omega) hlen
   have hh:=a90 (rpR t).length 1 (by omega) hlen
   obtain ⟨m1,hm1⟩:∃ m,1+3*(rpR t).length=m:=⟨_,rfl⟩
   rw [hm1] at hm hh
   have hne2:¬ (m1:Int) < 0:=by omega
   obtain ⟨rw0,hrw⟩:∃ l,(rpR t).map H9=l:=⟨_,rfl⟩
   obtain ⟨rk0,hrk⟩:∃ l,(mkL Q0 3 (rpR t).length 1).map H9=l:=⟨_,rfl⟩
   obtain ⟨c0,hc0⟩:∃ c,rpC t=c:=⟨_,rfl⟩
   rw [hrw,hc0] at hsp hip
   rw [hrw] at heq hm
   rw [hrk] at hm hh
   simp [f5,D5,L6,a7,c8,tx,num,a8,hz']
   refine R8 rfl rfl (.inl rfl) hsp ?_
   simp [tx,num,a6]
   refine b3n rfl rfl rfl (.inl rfl) hip ?_
   simp [a6,tx,num,PV.shift,PV.shiftL,M5]
   refine v6 rfl rfl (.inr rfl) heq ?_
   simp [a6,tx,num,PV.kill]
   refine rowC rfl rfl rfl rfl hm rfl ?_
   simp [a6,tx,num,PV.kill,hne2]
   refine v6 rfl rfl (.inr rfl) hh ?_
   simp [a6,tx,num,PV.kill,hne2]
   refine b3n rfl rfl rfl (.inl rfl) hip ?_
   simp [a6,tx,num,PV.kill,PV.shift,PV.shiftL,M5]
   refine v6 rfl rfl (.inr rfl) heq ?_
   simp [a6,tx,num,PV.kill]
   refine v6 rfl rfl (.inr rfl) hh ?_
   simp [a6,tx,num,PV.kill,hne2]
 · have hz':(1048576:Int) < (t.length:Int):=by omega
   simp [f5,D5,L6,a7,c8,tx,num,a8,hz']
end Go.Proofs
end
