/- Fs: merged out of KXm, KXbd, KXbe, KXbf. -/
import Derived.Test.YtfoapolbgpjfaaaGreatDoorPWw
import Derived.Test.YtfoapolbgpjfaaaGreatDoorCa
import Derived.Test.YtfoapolbgpjfaaaGreatDoorAc
import Derived.Test.YtfoapolbgpjfaaaGreatDoorBa
import Derived.Test.YtfoapolbgpjfaaaGreatDoorPWae
set_option linter.unusedSectionVars false
set_option linter.unusedSimpArgs false
set_option linter.unusedVariables false
set_option maxRecDepth 100000
section
namespace Go.Proofs
open Go.PW Go.KP
attribute [local simp] RV.cells RV.one PV.cells PV.solid PV.one o9 d9 l4 l0 RV.ofCells elems PV.killL
variable [GF]
theorem a2t (k:Nat) (hk:k < 1099511627776):f9 Tryz.prog 63 [.val (num k)] (.ret (.val (tx (lmk k))) []) []:=by
 refine f8 mixed ok63 rfl (fun _=>rfl) ?_
 unfold ir63
 rw [d8]
 unfold lmk
 by_cases h0:k=0
 · subst h0
   simp [f7,j4,k9,d7,f5,num,tx,bs]
 · have h0':¬ (k:Int)≤0:=by omega
   rw [if_neg h0]
   simp [f7,j4,k9,d7,f5,num,h0',h0]
   refine y8 (X:=Nat×Tx) (fun x=>⟨D2 [(0,.val (num x.1)),(3,.val (tx x.2))],D0 []⟩) (fun x=>x.1≤k∧x.2.length+x.1≤k∧a9q x.1 x.2=a9q k []) (fun x=>x.1) (k,[]) (Le.mk _ _ ?_ ?_) ⟨Nat.le_refl _,by simp,rfl⟩ ?_
   · simp [upd,num,tx,bs]
   · simp
   · rintro ⟨m,out⟩ ⟨hm,hlen,hF⟩
     simp only at hm hlen hF
     by_cases hz:m=0
     · subst hz
       rw [b6y] at hF
       subst hF
       have hlk:1+(a9q k []).length≤9223372036854775807:=by omega
       simp [num,tx,a3q,j9,b7,hlk]
     · have hp:(0:Int) < (m:Int):=by omega
       have hp2:0 < m:=by omega
       rw [b8k hz] at hF
       have g6:(m:Int).tdiv 10=((m / 10:Nat):Int):=by rw [Int.tdiv_eq_ediv_of_nonneg (by omega)];omega
       have g7:(m:Int).tmod 10=((m % 10:Nat):Int):=by rw [Int.tmod_eq_emod_of_nonneg (by omega)];omega
       have ha:m / 10 < m:=Nat.div_lt_self (by omega) (by omega)
       have hb:m % 10 < 10:=Nat.mod_lt _ (by omega)
       have hl10:(UInt8.ofNat (48+m % 10) :: out).length+m / 10≤k:=by simp only [List.length_cons];omega
       have g8:IntKind.i64.wrap ((m / 10:Nat):Int)=((m / 10:Nat):Int):=wrap_i64 (by omega) (by omega)
       have g4:IntKind.i64.wrap (48+((m % 10:Nat):Int))=48+((m % 10:Nat):Int):=wrap_i64 (by omega) (by omega)
       have g5:IntKind.u8.wrap (48+((m % 10:Nat):Int))=48+((m % 10:Nat):Int):=a7d (by omega) (by omega)
       have g9:=b9i (m % 10)
       generalize m / 10=a at *
       generalize m % 10=b at *
       have hsz:1+out.length≤9223372036854775807:=by simp only [List.length_cons] at hl10;omega
       simp [f7,j4,k9,d7,f5,num,tx,hp,hp2,hz,g6,g7,g8,g4,g5,RV.isU8,g9,b7,j9]
       refine ⟨hsz,LoopNext.mk (a,UInt8.ofNat (48+b) :: out) ⟨by omega,hl10,hF⟩ ha (Le.mk _ _ ?_ ?_)⟩
       · simp [num,tx]
       · simp
end Go.Proofs
end
section
namespace Go.Proofs
open Go.PW Go.KP
attribute [local simp] RV.cells RV.one PV.cells PV.solid PV.one o9 d9 l4 l0 RV.ofCells elems PV.killL
variable [GF]
end Go.Proofs
end
section
namespace Go.Proofs
open Go.PW Go.KP
attribute [local simp] RV.cells RV.one PV.cells PV.solid PV.one o9 d9 l4 l0 RV.ofCells elems PV.killL
variable [GF]
theorem b6u {K:Kx (PExit→St→Prop)} (xs:List RV) (k i:Nat) (a0:ByteArray) (hi:i < xs.length) (hk:k < 549755813888) (hl:xs.length < 1099511627776) (hx:xs[i]?.getD .nilptr=.str a0)
 (hn:∀ st':St,st'.env 0=.own 900→st'.env 1=.val (num ((k+1:Nat):Int))→st'.env 5=.val (num ((i+1:Nat):Int))→st'.mem 900=.row 9 1 (xs.set i (tx (lmk k)))→K.k .normal st') :
 EC Tryz.prog ir74_l6 ⟨D2 [(0,.own 900),(1,.val (num k)),(5,.val (num i))],D0 [(900,.row 9 1 xs)]⟩ (K:=K):=by
 unfold ir74_l6
 have s1:IntKind.i64.wrap ((k:Int)+1)=(k:Int)+1:=wrap_i64 (by omega) (by omega)
 have hmk0:f9 Tryz.prog 63 [.val (.int .i64 ((k:Int)))] (.ret (.val (.str (bs (lmk (k+0))))) []) []:=by
  have h:=a2t (k+0) (by omega)
  exact h
 have si:IntKind.i64.wrap ((i:Int)+1)=(i:Int)+1:=wrap_i64 (by omega) (by omega)
 have hx':xs[i]=.str a0:=by rw [← hx];simp [List.getElem?_eq_getElem hi]
 simp [num,hi]
 refine b8 rfl rfl (.inl rfl) hmk0 ?_
 simp [num,hi,hx,tx,s1]
 refine hn _ ?_ ?_ ?_ ?_
 · simp
 · simp only [B8,J2,C0,J0,C1,x3,B9,J1,p7,D9,L6,L7,l3,w7,w8,o2,C2,x2,o4,I9,B7,x1,w9,H0,H1,a4s,a4t,Option.getD_some,Option.getD_none,F7,x8,u7,G7,u6,u0,G9,u1,G8,G6,G5,M1,A7,u4,G3,A5,u3,G2,F5,G4,A6,G0,t8,A4,G1,M3,M2,F6,F8,u2,F9,A8,u5,E5,p9,F4,F3,F2,L8,A2,q8,F0,A0,q7,E9,E3,F1,A1,E7,p8,z8,E8,M0,L9,E4,z7,s9,E6,A3,q9,O0,N9,P1,O1,O5,O3,O2,P0,O4,O6,O7,O8,O9,C5,C4,C3,R8,R9,n5,J3,y0,H5,B0,P3,x6,X7,S3,K2,T6,T8,T7,X8,X9,N2,N4,N3,N5,N6,T3,B2,T2,H7,H8,H9,B3,a42,I6,B6,X5,X6,M4,S0,S1,Option.map_some,Option.map_none,I0,B4,A9,u9,H3,H4,M6,M5,U3,U2,N8,I7,I8,N7,T9,U0,M8,v8,M9,v7,S8,I5,I4,o3,T5,U1,N1,S9,T1,T0,B1,D6,D8,D7,n6,T4,Y1,Y0,S6,N0,a1f,S7,w6,I2,I3,B5,I1,o1,y9,n8,z6,n7,P2,U5,U6,C6,C7,J5,J4,H2,n5,s1,num]
   simp
   try omega
 · simp [num,si]
 · simp [hi,hx,hx']
   try simp [s1,num,tx]
theorem a9y (l:List Tx) (k:Nat) (hk:k < 8388608) (hl:l.length≤1048576):a5q Tryz.prog 74 (.own 0) 9 1 (l.map tx) [.val (num k)] (num ((k+1*l.length:Nat):Int)) ((mkL lmk 1 l.length k).map tx):=by
 refine a88 mixed ok74 rfl ?_
 unfold ir74
 rw [d8]
 simp [f7,j4,k9,d7,f5,P4,PV.nm,num]
 refine y8 (X:=Nat) (fun i=>⟨D2 [(0,.own 900),(1,.val (num ((k+1*i:Nat):Int))),(5,.val (num i))],D0 [(900,.row 9 1 ((mkU lmk 1 l k i).map tx))]⟩) (fun i=>i≤l.length) (fun i=>l.length - i) 0 (Le.mk _ _ ?_ ?_) (Nat.zero_le _) ?_
 · simp [upd,num,PV.kill]
 · simp [b2i]
 · intro i hi
   have hml:=b5y lmk 1 l k i hi
   by_cases h1:i < l.length
   · have hmi:i < (mkU lmk 1 l k i).length:=by omega
     have hset:=b5x lmk 1 l k i h1
     refine b6u ((mkU lmk 1 l k i).map tx) (k+1*i) i (bs (mkU lmk 1 l k i)[i]) (by simpa using hmi) (by omega) (by simp;omega) (by simp [List.getElem?_eq_getElem hmi,tx]) (fun st' q0 q1 q5 qm=>?_)
     simp
     refine LoopNext.mk (i+1) h1 (by omega) (Le.mk _ _ ?_ ?_)
     · simp [q0,q1,q5,num]
       omega
     · rw [← List.map_set,hset] at qm
       simp [qm]
   · have e:i=l.length:=by omega
     subst e
     unfold ir74_l6
     simp [num,hml,b5z,R1]
theorem a9z (n k:Nat) (hk:k < 8388608) (hl:n≤1048576):f9 Tryz.prog 76 [.val (.list 1 ((mkL lmk 1 n k).map tx)),.val (num k)] (.ret (.val (num ((k+1*n:Nat):Int))) []) []:=by
 refine f8 mixed ok76 rfl (fun _=>rfl) ?_
 unfold ir76
 rw [d8]
 have hlen:=R1 lmk 1 n k
 simp [f7,j4,k9,d7,f5,num]
 refine y8 (X:=Nat) (fun i=>⟨D2 [(0,.val (.list 1 ((mkL lmk 1 n k).map tx))),(1,.val (num ((k+1*i:Nat):Int))),(5,.val (num i))],D0 []⟩) (fun i=>i≤n) (fun i=>n - i) 0 (Le.mk _ _ ?_ ?_) (Nat.zero_le _) ?_
 · simp [upd,num,PV.kill]
 · simp
 · intro i hi
   unfold ir76_l6
   by_cases h1:i < n
   · have hi':i < (mkL lmk 1 n k).length:=by omega
     have hat:(mkL lmk 1 n k)[i]=lmk (k+1*i):=b8g h1
     have e1:((mkL lmk 1 n k).map tx)[i]?.getD .nilptr=tx (lmk (k+1*i)):=by simp [List.getElem?_eq_getElem hi',hat]
     generalize hj:k+1*i=j at *
     have hjj:j < 1099511627776:=by omega
     have s1:IntKind.i64.wrap ((j:Int)+1)=((j+1:Nat):Int):=by rw [wrap_i64 (by omega) (by omega)];omega
     have si:IntKind.i64.wrap ((i:Int)+1)=((i+1:Nat):Int):=by rw [wrap_i64 (by omega) (by omega)];omega
     have hmk0:f9 Tryz.prog 63 [.val (.int .i64 ((j+0:Nat):Int))] (.ret (.val (.str (bs (lmk (j+0))))) []) []:=a2t (j+0) (by omega)
     simp [num,R1,h1,e1,hat,tx,s1,si]
     refine j6 rfl rfl (.inl rfl) hmk0 ?_
     simp [num,R1,h1,e1,hat,tx,s1,si]
     refine LoopNext.mk (i+1) h1 (by omega) (Le.mk _ _ ?_ ?_)
     · simp [num,s1,si]
       omega
     · simp
   · have e:i=n:=by omega
     subst e
     simp [num,R1]
end Go.Proofs
end
section
namespace Go.Proofs
open Go.PW Go.KP
attribute [local simp] RV.cells RV.one PV.cells PV.solid PV.one o9 d9 l4 l0 RV.ofCells elems PV.killL
variable [GF]
theorem b24 (l:List Tx) (hx:bdS 1048576 (fun t=>t.length≤1048576) l):f9 Tryz.prog 73 [.val (.list 1 (l.map tx)),.val (.list 1 (l.map tx))] (.ret (.val (.bool true)) []) []:=by
 refine f8 mixed ok73 rfl (fun _=>rfl) ?_
 unfold ir73
 rw [d8]
 have hl:l.length≤1048576:=hx.1
 simp [f7,j4,k9,d7,f5,num]
 refine y8 (X:=Nat) (fun i=>⟨D2 [(0,.val (.list 1 (l.map tx))),(1,.val (.list 1 (l.map tx))),(5,.val (num i))],D0 []⟩) (fun i=>i≤l.length) (fun i=>l.length - i) 0 (Le.mk _ _ ?_ ?_) ?_ ?_
 · simp [upd,num,PV.kill]
 · simp
 · simp
 · intro i hi
   simp [num]
   refine j7 (fun h1=>?_) (fun h1=>?_)
   · have e1:(l.map tx)[i]?.getD .nilptr=tx l[i]:=by simp [List.getElem?_eq_getElem h1]
     simp [num,h1,e1,tx]
     refine LoopNext.mk (i+1) (by omega) (by omega) (Le.mk _ _ ?_ ?_)
     · simp [num];exact wrap_i64 (by omega) (by omega)
     · simp
   · simp
end Go.Proofs
end
