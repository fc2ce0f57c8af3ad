/- Fc: merged out of KXm, KXa, KXh. -/
import Derived.Test.YtapjdgcfakhpaaaGreatDoorPWw
import Derived.Test.YtapjdgcfakhpaaaGreatDoorCa
import Derived.Test.YtapjdgcfakhpaaaGreatDoorAc
import Derived.Test.YtapjdgcfakhpaaaGreatDoorBa
import Derived.Test.YtapjdgcfakhpaaaGreatDoorCc
import Derived.Test.YtapjdgcfakhpaaaGreatDoorPWae
set_option linter.unusedSectionVars false
set_option linter.unusedSimpArgs false
set_option linter.unusedVariables false
set_option maxRecDepth 100000
section
namespace Go.Proofs
open Go.PW Go.KP
attribute [local simp] RV.cells RV.one PV.cells PV.solid PV.one G1 i6 L8 K7 RV.ofCells elems PV.killL
variable [GF]
theorem a04 (k:Nat) (hk:k < 1099511627776):d8 Tryz.prog 83 [.val (num k)] (.ret (.val (tx (lmk k))) []) []:=by
 refine f6 mixed ok83 rfl (fun _=>rfl) ?_
 unfold ir83
 rw [b6]
 unfold lmk
 by_cases h0:k=0
 · subst h0
   simp [d9,f9,j8,b8,d7,num,tx,bs]
 · have h0':¬ (k:Int)≤0:=by omega
   rw [if_neg h0]
   simp [d9,f9,j8,b8,d7,num,h0',h0]
   refine j7 (X:=Nat×Tx) (fun x=>⟨t6 [(0,.val (num x.1)),(3,.val (tx x.2))],u1 []⟩) (fun x=>x.1≤k∧x.2.length+x.1≤k∧b6x x.1 x.2=b6x k []) (fun x=>x.1) (k,[]) (Le.mk _ _ ?_ ?_) ⟨Nat.le_refl _,by simp,rfl⟩ ?_
   · simp [upd,num,tx,bs]
   · simp
   · rintro ⟨m,out⟩ ⟨hm,hlen,hF⟩
     simp only at hm hlen hF
     by_cases hz:m=0
     · subst hz
       rw [c7p] at hF
       subst hF
       have hlk:1+(b6x k []).length≤9223372036854775807:=by omega
       simp [num,tx,bs_mk,L3,b9,hlk]
     · have hp:(0:Int) < (m:Int):=by omega
       have hp2:0 < m:=by omega
       rw [d0g hz] at hF
       have g6:(m:Int).tdiv 10=((m / 10:Nat):Int):=by rw [Int.tdiv_eq_ediv_of_nonneg (by omega)];omega
       have g7:(m:Int).tmod 10=((m % 10:Nat):Int):=by rw [Int.tmod_eq_emod_of_nonneg (by omega)];omega
       have ha:m / 10 < m:=Nat.div_lt_self (by omega) (by omega)
       have hb:m % 10 < 10:=Nat.mod_lt _ (by omega)
       have hl10:(UInt8.ofNat (48+m % 10) :: out).length+m / 10≤k:=by simp only [List.length_cons];omega
       have g8:IntKind.i64.wrap ((m / 10:Nat):Int)=((m / 10:Nat):Int):=wrap_i64 (by omega) (by omega)
       have g4:IntKind.i64.wrap (48+((m % 10:Nat):Int))=48+((m % 10:Nat):Int):=wrap_i64 (by omega) (by omega)
       have g5:IntKind.u8.wrap (48+((m % 10:Nat):Int))=48+((m % 10:Nat):Int):=b3w (by omega) (by omega)
       have g9:=d1w (m % 10)
       generalize m / 10=a at *
       generalize m % 10=b at *
       have hsz:1+out.length≤9223372036854775807:=by simp only [List.length_cons] at hl10;omega
       simp [d9,f9,j8,b8,d7,num,tx,hp,hp2,hz,g6,g7,g8,g4,g5,RV.isU8,g9,b9,L3]
       refine ⟨hsz,LoopNext.mk (a,UInt8.ofNat (48+b) :: out) ⟨by omega,hl10,hF⟩ ha (Le.mk _ _ ?_ ?_)⟩
       · simp [num,tx]
       · simp
end Go.Proofs
end
section
namespace Go.Proofs
open Go.PW Go.KP
attribute [local simp] RV.cells RV.one PV.cells PV.solid PV.one G1 i6 L8 K7 RV.ofCells elems PV.killL
variable [GF]
theorem b2e (l:List Tx) (hx:bdS 1048576 (fun t=>t.length≤1048576) l):d8 Tryz.prog 70 [.val (.list 1 (l.map tx))] (.ret (.own 0) [⟨9,1,l.map tx⟩]) []:=by
 refine a69 (mk:=fun i=>.own i) mixed ok70 rfl (fun _=>rfl) ?_
 unfold ir70
 rw [b6]
 have hl:l.length≤1048576:=hx.1
 simp [d9,f9,j8,b8,d7,num,G1]
 refine ⟨by omega,by omega,?_⟩
 refine j7 (X:=Nat) (fun i=>⟨t6 [(0,.val (.list 1 (l.map tx))),(3,.own 7),(4,.val (num i))],u1 [(7,.row 9 1 (a25 tx (.str (bs [])) l i))]⟩) (fun i=>i≤l.length) (fun i=>l.length - i) 0 (Le.mk _ _ ?_ ?_) ?_ ?_
 · simp [upd,num,PV.kill]
 · simp [upd,num,bs,a4x]
 · simp
 · intro i hi
   have hlen:=a55 tx (.str (bs [])) l i hi
   simp [num,G1]
   refine f7 (fun h1=>?_) (fun h1=>?_)
   · have e1:(l.map tx)[i]?.getD .nilptr=tx l[i]:=by simp [List.getElem?_eq_getElem h1]
     have e2:=a8v tx (.str (bs [])) l i h1
     have e3:=a54 tx (.str (bs [])) l i h1
     have e4:(a25 tx (.str (bs [])) l i)[i]'(by omega)=(.str (bs [])):=by
      have h9:=e2
      rw [List.getElem?_eq_getElem (show i < (a25 tx (.str (bs [])) l i).length by omega)] at h9
      exact h9
     simp [num,h1,e1,tx,hlen,G1]
     refine LoopNext.mk (i+1) (by omega) (by omega) (Le.mk _ _ ?_ ?_)
     · simp [num];exact wrap_i64 (by omega) (by omega)
     · rw [← e3]
       simp [num,tx,e4]
   · have e1:i=l.length:=by omega
     subst e1
     simp [num,a56,Z3,PV.pl]
theorem c7i {K:Kx (PExit→St→Prop)} (xs:List RV) (k i:Nat) (a0:ByteArray) (hi:i < xs.length) (hk:k < 549755813888) (hl:xs.length < 1099511627776) (hx:xs[i]?.getD .nilptr=.str a0)
 (hn:∀ st':St,st'.env 0=.own 900→st'.env 1=.val (num ((k+1:Nat):Int))→st'.env 5=.val (num ((i+1:Nat):Int))→st'.mem 900=.row 9 1 (xs.set i (tx (lmk k)))→K.k .normal st') :
 EC Tryz.prog ir32_l6 ⟨t6 [(0,.own 900),(1,.val (num k)),(5,.val (num i))],u1 [(900,.row 9 1 xs)]⟩ (K:=K):=by
 unfold ir32_l6
 have s1:IntKind.i64.wrap ((k:Int)+1)=(k:Int)+1:=wrap_i64 (by omega) (by omega)
 have hmk0:d8 Tryz.prog 83 [.val (.int .i64 ((k:Int)))] (.ret (.val (.str (bs (lmk (k+0))))) []) []:=by
  have h:=a04 (k+0) (by omega)
  exact h
 have si:IntKind.i64.wrap ((i:Int)+1)=(i:Int)+1:=wrap_i64 (by omega) (by omega)
 have hx':xs[i]=.str a0:=by rw [← hx];simp [List.getElem?_eq_getElem hi]
 simp [num,hi]
 refine b7 rfl rfl (.inl rfl) hmk0 ?_
 simp [num,hi,hx,tx,s1]
 refine hn _ ?_ ?_ ?_ ?_
 · simp
 · simp only [x9,F5,y4,F3,y5,q7,y0,F4,l6,A5,G6,G7,j6,p5,p6,l0,y6,p9,l2,F2,x8,p8,p7,D3,D4,a0u,a0v,Option.getD_some,Option.getD_none,C0,t8,o5,D0,o4,n7,D2,n8,D1,C9,C8,H1,w6,o2,C6,v8,o1,C5,B8,C7,w5,C3,n6,v7,C4,H3,H2,B9,C1,n9,C2,w7,o3,A8,l8,B7,B6,B5,G8,u9,m8,B3,u6,l9,B2,A6,B4,u7,B0,l7,u5,B1,H0,G9,A7,u4,n5,A9,v6,n0,J1,J0,K4,J2,J6,J4,J3,K3,J5,J7,J8,J9,K2,y9,y8,y7,M0,M1,z7,F6,u0,D8,x1,K6,q8,Q1,M4,L6,N6,N8,N7,Q2,Q3,I3,I5,I4,I6,I7,N3,x3,N2,D9,E1,E2,x4,a0x,E9,x7,P9,Q0,H4,M2,M3,Option.map_some,Option.map_none,E3,x5,w9,o6,D6,D7,H7,H6,O3,O2,I9,F0,F1,I8,N9,O0,H9,o8,I0,o7,M7,E8,E7,l1,N5,O1,I2,M9,N1,N0,x2,A2,A4,A3,k6,N4,Q5,Q4,M5,I1,U3,M6,o9,E5,E6,x6,E4,k9,u2,k8,u3,k7,K5,O4,O5,z1,z6,F8,F7,D5,z7,s1,num]
   simp
   try omega
 · simp [num,si]
 · simp [hi,hx,hx']
   try simp [s1,num,tx]
theorem a5z (l:List Tx) (k:Nat) (hk:k < 8388608) (hl:l.length≤1048576):a4w Tryz.prog 32 (.own 0) 9 1 (l.map tx) [.val (num k)] (num ((k+1*l.length:Nat):Int)) ((mkL lmk 1 l.length k).map tx):=by
 refine a30 mixed ok32 rfl ?_
 unfold ir32
 rw [b6]
 simp [d9,f9,j8,b8,d7,V1,PV.nm,num]
 refine j7 (X:=Nat) (fun i=>⟨t6 [(0,.own 900),(1,.val (num ((k+1*i:Nat):Int))),(5,.val (num i))],u1 [(900,.row 9 1 ((mkU lmk 1 l k i).map tx))]⟩) (fun i=>i≤l.length) (fun i=>l.length - i) 0 (Le.mk _ _ ?_ ?_) (Nat.zero_le _) ?_
 · simp [upd,num,PV.kill]
 · simp [a6a]
 · intro i hi
   have hml:=a83 lmk 1 l k i hi
   by_cases h1:i < l.length
   · have hmi:i < (mkU lmk 1 l k i).length:=by omega
     have hset:=a82 lmk 1 l k i h1
     refine c7i ((mkU lmk 1 l k i).map tx) (k+1*i) i (bs (mkU lmk 1 l k i)[i]) (by simpa using hmi) (by omega) (by simp;omega) (by simp [List.getElem?_eq_getElem hmi,tx]) (fun st' q0 q1 q5 qm=>?_)
     simp
     refine LoopNext.mk (i+1) h1 (by omega) (Le.mk _ _ ?_ ?_)
     · simp [q0,q1,q5,num]
       omega
     · rw [← List.map_set,hset] at qm
       simp [qm]
   · have e:i=l.length:=by omega
     subst e
     unfold ir32_l6
     simp [num,hml,a84,a1y]
theorem b7a (l:List Int) (hx:l.length≤1048576):d8 Tryz.prog 167 [.val (.list 1 (l.map num))] (.ret (.own 0) [⟨3,1,l.map num⟩]) []:=by
 refine a69 (mk:=fun i=>.own i) mixed ok167 rfl (fun _=>rfl) ?_
 unfold ir167
 rw [b6]
 have hl:l.length≤1048576:=hx
 simp [d9,f9,j8,b8,d7,num,G1]
 refine ⟨by omega,by omega,?_⟩
 refine j7 (X:=Nat) (fun i=>⟨t6 [(0,.val (.list 1 (l.map num))),(3,.own 7),(4,.val (num i))],u1 [(7,.row 3 1 (a25 num (.int .i64 0) l i))]⟩) (fun i=>i≤l.length) (fun i=>l.length - i) 0 (Le.mk _ _ ?_ ?_) ?_ ?_
 · simp [upd,num,PV.kill]
 · simp [upd,num,bs,a4x]
 · simp
 · intro i hi
   have hlen:=a55 num (.int .i64 0) l i hi
   simp [num,G1]
   refine f7 (fun h1=>?_) (fun h1=>?_)
   · have e1:(l.map num)[i]?.getD .nilptr=num l[i]:=by simp [List.getElem?_eq_getElem h1]
     have e2:=a8v num (.int .i64 0) l i h1
     have e3:=a54 num (.int .i64 0) l i h1
     have e4:(a25 num (.int .i64 0) l i)[i]'(by omega)=(.int .i64 0):=by
      have h9:=e2
      rw [List.getElem?_eq_getElem (show i < (a25 num (.int .i64 0) l i).length by omega)] at h9
      exact h9
     simp [num,h1,e1,tx,hlen,G1]
     refine LoopNext.mk (i+1) (by omega) (by omega) (Le.mk _ _ ?_ ?_)
     · simp [num];exact wrap_i64 (by omega) (by omega)
     · rw [← e3]
       simp [num,tx,e4]
   · have e1:i=l.length:=by omega
     subst e1
     simp [num,a56,Z3,PV.pl]
theorem c7j {K:Kx (PExit→St→Prop)} (xs:List RV) (k i:Nat) (a0:Int) (hi:i < xs.length) (hk:k < 549755813888) (hl:xs.length < 1099511627776) (hx:xs[i]?.getD .nilptr=.int .i64 a0)
 (hn:∀ st':St,st'.env 0=.own 900→st'.env 1=.val (num ((k+1:Nat):Int))→st'.env 5=.val (num ((i+1:Nat):Int))→st'.mem 900=.row 3 1 (xs.set i (num (a27 k)))→K.k .normal st') :
 EC Tryz.prog ir18_l6 ⟨t6 [(0,.own 900),(1,.val (num k)),(5,.val (num i))],u1 [(900,.row 3 1 xs)]⟩ (K:=K):=by
 unfold ir18_l6
 have s1:IntKind.i64.wrap ((k:Int)+1)=(k:Int)+1:=wrap_i64 (by omega) (by omega)
 have si:IntKind.i64.wrap ((i:Int)+1)=(i:Int)+1:=wrap_i64 (by omega) (by omega)
 have hx':xs[i]=.int .i64 a0:=by rw [← hx];simp [List.getElem?_eq_getElem hi]
 simp [num,hi,hx,s1]
 refine hn _ ?_ ?_ ?_ ?_
 · simp
 · simp only [x9,F5,y4,F3,y5,q7,y0,F4,l6,A5,G6,G7,j6,p5,p6,l0,y6,p9,l2,F2,x8,p8,p7,D3,D4,a0u,a0v,Option.getD_some,Option.getD_none,C0,t8,o5,D0,o4,n7,D2,n8,D1,C9,C8,H1,w6,o2,C6,v8,o1,C5,B8,C7,w5,C3,n6,v7,C4,H3,H2,B9,C1,n9,C2,w7,o3,A8,l8,B7,B6,B5,G8,u9,m8,B3,u6,l9,B2,A6,B4,u7,B0,l7,u5,B1,H0,G9,A7,u4,n5,A9,v6,n0,J1,J0,K4,J2,J6,J4,J3,K3,J5,J7,J8,J9,K2,y9,y8,y7,M0,M1,z7,F6,u0,D8,x1,K6,q8,Q1,M4,L6,N6,N8,N7,Q2,Q3,I3,I5,I4,I6,I7,N3,x3,N2,D9,E1,E2,x4,a0x,E9,x7,P9,Q0,H4,M2,M3,Option.map_some,Option.map_none,E3,x5,w9,o6,D6,D7,H7,H6,O3,O2,I9,F0,F1,I8,N9,O0,H9,o8,I0,o7,M7,E8,E7,l1,N5,O1,I2,M9,N1,N0,x2,A2,A4,A3,k6,N4,Q5,Q4,M5,I1,U3,M6,o9,E5,E6,x6,E4,k9,u2,k8,u3,k7,K5,O4,O5,z1,z6,F8,F7,D5,z7,s1,num]
   simp
   try omega
 · simp [num,si]
 · simp [hi,hx,hx']
   try simp [s1,a27,num,tx]
theorem b5k (l:List Int) (k:Nat) (hk:k < 8388608) (hl:l.length≤1048576):a4w Tryz.prog 18 (.own 0) 3 1 (l.map num) [.val (num k)] (num ((k+1*l.length:Nat):Int)) ((mkL a27 1 l.length k).map num):=by
 refine a30 mixed ok18 rfl ?_
 unfold ir18
 rw [b6]
 simp [d9,f9,j8,b8,d7,V1,PV.nm,num]
 refine j7 (X:=Nat) (fun i=>⟨t6 [(0,.own 900),(1,.val (num ((k+1*i:Nat):Int))),(5,.val (num i))],u1 [(900,.row 3 1 ((mkU a27 1 l k i).map num))]⟩) (fun i=>i≤l.length) (fun i=>l.length - i) 0 (Le.mk _ _ ?_ ?_) (Nat.zero_le _) ?_
 · simp [upd,num,PV.kill]
 · simp [a6a]
 · intro i hi
   have hml:=a83 a27 1 l k i hi
   by_cases h1:i < l.length
   · have hmi:i < (mkU a27 1 l k i).length:=by omega
     have hset:=a82 a27 1 l k i h1
     refine c7j ((mkU a27 1 l k i).map num) (k+1*i) i (mkU a27 1 l k i)[i] (by simpa using hmi) (by omega) (by simp;omega) (by simp [List.getElem?_eq_getElem hmi,num]) (fun st' q0 q1 q5 qm=>?_)
     simp
     refine LoopNext.mk (i+1) h1 (by omega) (Le.mk _ _ ?_ ?_)
     · simp [q0,q1,q5,num]
       omega
     · rw [← List.map_set,hset] at qm
       simp [qm]
   · have e:i=l.length:=by omega
     subst e
     unfold ir18_l6
     simp [num,hml,a84,a1y]
theorem b2d (l:List LTarget) (hx:bdS 1048576 (U4 1048576) l):d8 Tryz.prog 226 [.val (.list 3 (l.map f8))] (.ret (.own 0) [⟨185,3,l.map f8⟩]) []:=by
 refine a69 (mk:=fun i=>.own i) mixed ok226 rfl (fun _=>rfl) ?_
 unfold ir226
 rw [b6]
 have hl:l.length≤1048576:=hx.1
 simp [d9,f9,j8,b8,d7,num,G1]
 refine ⟨by omega,by omega,?_⟩
 refine j7 (X:=Nat) (fun i=>⟨t6 [(0,.val (.list 3 (l.map f8))),(3,.own 7),(4,.val (num i))],u1 [(7,.row 185 3 (a25 f8 (.agg [.str (bs []),.int .i64 0,.int .i64 0]) l i))]⟩) (fun i=>i≤l.length) (fun i=>l.length - i) 0 (Le.mk _ _ ?_ ?_) ?_ ?_
 · simp [upd,num,PV.kill]
 · simp [upd,num,bs,a4x]
 · simp
 · intro i hi
   have hlen:=a55 f8 (.agg [.str (bs []),.int .i64 0,.int .i64 0]) l i hi
   simp [num,G1]
   refine f7 (fun h1=>?_) (fun h1=>?_)
   · have e1:(l.map f8)[i]?.getD .nilptr=f8 l[i]:=by simp [List.getElem?_eq_getElem h1]
     have e2:=a8v f8 (.agg [.str (bs []),.int .i64 0,.int .i64 0]) l i h1
     have e3:=a54 f8 (.agg [.str (bs []),.int .i64 0,.int .i64 0]) l i h1
     have e4:(a25 f8 (.agg [.str (bs []),.int .i64 0,.int .i64 0]) l i)[i]'(by omega)=(.agg [.str (bs []),.int .i64 0,.int .i64 0]):=by
      have h9:=e2
      rw [List.getElem?_eq_getElem (show i < (a25 f8 (.agg [.str (bs []),.int .i64 0,.int .i64 0]) l i).length by omega)] at h9
      exact h9
     simp [num,h1,e1,f8,tx,hlen,G1]
     refine b7 rfl rfl (.inl rfl) (b5n l[i] (hx.2 _ (List.getElem_mem h1))) ?_
     simp [num,h1,e1,e2,f8,tx,hlen,G1]
     refine LoopNext.mk (i+1) (by omega) (by omega) (Le.mk _ _ ?_ ?_)
     · simp [num];exact wrap_i64 (by omega) (by omega)
     · rw [← e3]
       simp [f8,num,tx,e4]
   · have e1:i=l.length:=by omega
     subst e1
     simp [num,a56,Z3,PV.pl]
theorem b8x {K:Kx (PExit→St→Prop)} (xs:List RV) (k i:Nat) (a0 a1 a2:RV) (hi:i < xs.length) (hk:k < 549755813888) (hl:xs.length < 1099511627776) (hx:xs[i]?.getD .nilptr=.agg [a0,a1,a2])
 (hn:∀ st':St,st'.env 0=.own 900→st'.env 1=.val (num ((k+3:Nat):Int))→st'.env 5=.val (num ((i+1:Nat):Int))→st'.mem 900=.row 185 3 (xs.set i (f8 (a1l k)))→K.k .normal st') :
 EC Tryz.prog ir79_l6 ⟨t6 [(0,.own 900),(1,.val (num k)),(5,.val (num i))],u1 [(900,.row 185 3 xs)]⟩ (K:=K):=by
 unfold ir79_l6
 have s1:IntKind.i64.wrap ((k:Int)+1)=(k:Int)+1:=wrap_i64 (by omega) (by omega)
 have hmk0:d8 Tryz.prog 83 [.val (.int .i64 ((k:Int)))] (.ret (.val (.str (bs (lmk (k+0))))) []) []:=by
  have h:=a04 (k+0) (by omega)
  exact h
 have s2:IntKind.i64.wrap ((k:Int)+1+1)=(k:Int)+1+1:=wrap_i64 (by omega) (by omega)
 have c1:((k+1:Nat):Int)=(k:Int)+1:=by omega
 have s3:IntKind.i64.wrap ((k:Int)+1+1+1)=(k:Int)+1+1+1:=wrap_i64 (by omega) (by omega)
 have c2:((k+2:Nat):Int)=(k:Int)+1+1:=by omega
 have si:IntKind.i64.wrap ((i:Int)+1)=(i:Int)+1:=wrap_i64 (by omega) (by omega)
 have hx':xs[i]=.agg [a0,a1,a2]:=by rw [← hx];simp [List.getElem?_eq_getElem hi]
 simp [num,hi]
 refine b7 rfl rfl (.inl rfl) hmk0 ?_
 simp [num,hi,hx,tx,s1,s2,s3]
 refine hn _ ?_ ?_ ?_ ?_
 · simp
 · simp only [x9,F5,y4,F3,y5,q7,y0,F4,l6,A5,G6,G7,j6,p5,p6,l0,y6,p9,l2,F2,x8,p8,p7,D3,D4,a0u,a0v,Option.getD_some,Option.getD_none,C0,t8,o5,D0,o4,n7,D2,n8,D1,C9,C8,H1,w6,o2,C6,v8,o1,C5,B8,C7,w5,C3,n6,v7,C4,H3,H2,B9,C1,n9,C2,w7,o3,A8,l8,B7,B6,B5,G8,u9,m8,B3,u6,l9,B2,A6,B4,u7,B0,l7,u5,B1,H0,G9,A7,u4,n5,A9,v6,n0,J1,J0,K4,J2,J6,J4,J3,K3,J5,J7,J8,J9,K2,y9,y8,y7,M0,M1,z7,F6,u0,D8,x1,K6,q8,Q1,M4,L6,N6,N8,N7,Q2,Q3,I3,I5,I4,I6,I7,N3,x3,N2,D9,E1,E2,x4,a0x,E9,x7,P9,Q0,H4,M2,M3,Option.map_some,Option.map_none,E3,x5,w9,o6,D6,D7,H7,H6,O3,O2,I9,F0,F1,I8,N9,O0,H9,o8,I0,o7,M7,E8,E7,l1,N5,O1,I2,M9,N1,N0,x2,A2,A4,A3,k6,N4,Q5,Q4,M5,I1,U3,M6,o9,E5,E6,x6,E4,k9,u2,k8,u3,k7,K5,O4,O5,z1,z6,F8,F7,D5,z7,s1,s2,s3,num]
   simp
   try omega
 · simp [num,si]
 · simp [hi,hx,hx']
   try simp [s1,s2,s3,c1,c2,f8,a1l,num,tx]
theorem b68 (l:List LTarget) (k:Nat) (hk:k < 8388608) (hl:l.length≤1048576):a4w Tryz.prog 79 (.own 0) 185 3 (l.map f8) [.val (num k)] (num ((k+3*l.length:Nat):Int)) ((mkL a1l 3 l.length k).map f8):=by
 refine a30 mixed ok79 rfl ?_
 unfold ir79
 rw [b6]
 simp [d9,f9,j8,b8,d7,V1,PV.nm,num]
 refine j7 (X:=Nat) (fun i=>⟨t6 [(0,.own 900),(1,.val (num ((k+3*i:Nat):Int))),(5,.val (num i))],u1 [(900,.row 185 3 ((mkU a1l 3 l k i).map f8))]⟩) (fun i=>i≤l.length) (fun i=>l.length - i) 0 (Le.mk _ _ ?_ ?_) (Nat.zero_le _) ?_
 · simp [upd,num,PV.kill]
 · simp [a6a]
 · intro i hi
   have hml:=a83 a1l 3 l k i hi
   by_cases h1:i < l.length
   · have hmi:i < (mkU a1l 3 l k i).length:=by omega
     have hset:=a82 a1l 3 l k i h1
     refine b8x ((mkU a1l 3 l k i).map f8) (k+3*i) i (tx (mkU a1l 3 l k i)[i].url) (num (mkU a1l 3 l k i)[i].prio) (num (mkU a1l 3 l k i)[i].weight) (by simpa using hmi) (by omega) (by simp;omega) (by simp [List.getElem?_eq_getElem hmi,f8]) (fun st' q0 q1 q5 qm=>?_)
     simp
     refine LoopNext.mk (i+1) h1 (by omega) (Le.mk _ _ ?_ ?_)
     · simp [q0,q1,q5,num]
       omega
     · rw [← List.map_set,hset] at qm
       simp [qm]
   · have e:i=l.length:=by omega
     subst e
     unfold ir79_l6
     simp [num,hml,a84,a1y]
theorem b5o (l:List LPeer) (hx:bdS 1048576 (a1d 1048576) l):d8 Tryz.prog 165 [.val (.list 6 (l.map F9))] (.ret (.own 0) [⟨194,6,l.map F9⟩]) []:=by
 refine a69 (mk:=fun i=>.own i) mixed ok165 rfl (fun _=>rfl) ?_
 unfold ir165
 rw [b6]
 have hl:l.length≤1048576:=hx.1
 simp [d9,f9,j8,b8,d7,num,G1]
 refine ⟨by omega,by omega,?_⟩
 refine j7 (X:=Nat) (fun i=>⟨t6 [(0,.val (.list 6 (l.map F9))),(3,.own 7),(4,.val (num i))],u1 [(7,.row 194 6 (a25 F9 (.agg [.str (bs []),.int .i64 0,.int .i64 0,.int .i64 0,.int .i64 0,.bool false]) l i))]⟩) (fun i=>i≤l.length) (fun i=>l.length - i) 0 (Le.mk _ _ ?_ ?_) ?_ ?_
 · simp [upd,num,PV.kill]
 · simp [upd,num,bs,a4x]
 · simp
 · intro i hi
   have hlen:=a55 F9 (.agg [.str (bs []),.int .i64 0,.int .i64 0,.int .i64 0,.int .i64 0,.bool false]) l i hi
   simp [num,G1]
   refine f7 (fun h1=>?_) (fun h1=>?_)
   · have e1:(l.map F9)[i]?.getD .nilptr=F9 l[i]:=by simp [List.getElem?_eq_getElem h1]
     have e2:=a8v F9 (.agg [.str (bs []),.int .i64 0,.int .i64 0,.int .i64 0,.int .i64 0,.bool false]) l i h1
     have e3:=a54 F9 (.agg [.str (bs []),.int .i64 0,.int .i64 0,.int .i64 0,.int .i64 0,.bool false]) l i h1
     have e4:(a25 F9 (.agg [.str (bs []),.int .i64 0,.int .i64 0,.int .i64 0,.int .i64 0,.bool false]) l i)[i]'(by omega)=(.agg [.str (bs []),.int .i64 0,.int .i64 0,.int .i64 0,.int .i64 0,.bool false]):=by
      have h9:=e2
      rw [List.getElem?_eq_getElem (show i < (a25 F9 (.agg [.str (bs []),.int .i64 0,.int .i64 0,.int .i64 0,.int .i64 0,.bool false]) l i).length by omega)] at h9
      exact h9
     simp [num,h1,e1,f8,F9,tx,hlen,G1]
     refine b7 rfl rfl (.inl rfl) (d08 l[i] (hx.2 _ (List.getElem_mem h1))) ?_
     simp [num,h1,e1,e2,f8,F9,tx,hlen,G1]
     refine LoopNext.mk (i+1) (by omega) (by omega) (Le.mk _ _ ?_ ?_)
     · simp [num];exact wrap_i64 (by omega) (by omega)
     · rw [← e3]
       simp [f8,F9,num,tx,e4]
   · have e1:i=l.length:=by omega
     subst e1
     simp [num,a56,Z3,PV.pl]
theorem c31 {K:Kx (PExit→St→Prop)} (xs:List RV) (k i:Nat) (a0 a1 a2 a3 a4 a5:RV) (hi:i < xs.length) (hk:k < 549755813888) (hl:xs.length < 1099511627776) (hx:xs[i]?.getD .nilptr=.agg [a0,a1,a2,a3,a4,a5])
 (hn:∀ st':St,st'.env 0=.own 900→st'.env 1=.val (num ((k+6:Nat):Int))→st'.env 5=.val (num ((i+1:Nat):Int))→st'.mem 900=.row 194 6 (xs.set i (F9 (a26 k)))→K.k .normal st') :
 EC Tryz.prog ir121_l6 ⟨t6 [(0,.own 900),(1,.val (num k)),(5,.val (num i))],u1 [(900,.row 194 6 xs)]⟩ (K:=K):=by
 unfold ir121_l6
 have s1:IntKind.i64.wrap ((k:Int)+1)=(k:Int)+1:=wrap_i64 (by omega) (by omega)
 have hmk0:d8 Tryz.prog 83 [.val (.int .i64 ((k:Int)))] (.ret (.val (.str (bs (lmk (k+0))))) []) []:=by
  have h:=a04 (k+0) (by omega)
  exact h
 have s2:IntKind.i64.wrap ((k:Int)+1+1)=(k:Int)+1+1:=wrap_i64 (by omega) (by omega)
 have c1:((k+1:Nat):Int)=(k:Int)+1:=by omega
 have s3:IntKind.i64.wrap ((k:Int)+1+1+1)=(k:Int)+1+1+1:=wrap_i64 (by omega) (by omega)
 have c2:((k+2:Nat):Int)=(k:Int)+1+1:=by omega
 have s4:IntKind.i64.wrap ((k:Int)+1+1+1+1)=(k:Int)+1+1+1+1:=wrap_i64 (by omega) (by omega)
 have c3:((k+3:Nat):Int)=(k:Int)+1+1+1:=by omega
 have s5:IntKind.i64.wrap ((k:Int)+1+1+1+1+1)=(k:Int)+1+1+1+1+1:=wrap_i64 (by omega) (by omega)
 have c4:((k+4:Nat):Int)=(k:Int)+1+1+1+1:=by omega
 have s6:IntKind.i64.wrap ((k:Int)+1+1+1+1+1+1)=(k:Int)+1+1+1+1+1+1:=wrap_i64 (by omega) (by omega)
 have c5:((k+5:Nat):Int)=(k:Int)+1+1+1+1+1:=by omega
 have hm5:(((k:Int)+1+1+1+1+1).tmod 3 == 0)=decide ((k+5) % 3=0):=by
  rw [Int.tmod_eq_emod_of_nonneg (by omega),Bool.eq_iff_iff]
  simp only [beq_iff_eq,decide_eq_true_eq]
  omega
 have si:IntKind.i64.wrap ((i:Int)+1)=(i:Int)+1:=wrap_i64 (by omega) (by omega)
 have hx':xs[i]=.agg [a0,a1,a2,a3,a4,a5]:=by rw [← hx];simp [List.getElem?_eq_getElem hi]
 simp [num,hi]
 refine b7 rfl rfl (.inl rfl) hmk0 ?_
 simp [num,hi,hx,tx,s1,s2,s3,s4,s5,s6]
 refine hn _ ?_ ?_ ?_ ?_
 · simp
 · simp only [x9,F5,y4,F3,y5,q7,y0,F4,l6,A5,G6,G7,j6,p5,p6,l0,y6,p9,l2,F2,x8,p8,p7,D3,D4,a0u,a0v,Option.getD_some,Option.getD_none,C0,t8,o5,D0,o4,n7,D2,n8,D1,C9,C8,H1,w6,o2,C6,v8,o1,C5,B8,C7,w5,C3,n6,v7,C4,H3,H2,B9,C1,n9,C2,w7,o3,A8,l8,B7,B6,B5,G8,u9,m8,B3,u6,l9,B2,A6,B4,u7,B0,l7,u5,B1,H0,G9,A7,u4,n5,A9,v6,n0,J1,J0,K4,J2,J6,J4,J3,K3,J5,J7,J8,J9,K2,y9,y8,y7,M0,M1,z7,F6,u0,D8,x1,K6,q8,Q1,M4,L6,N6,N8,N7,Q2,Q3,I3,I5,I4,I6,I7,N3,x3,N2,D9,E1,E2,x4,a0x,E9,x7,P9,Q0,H4,M2,M3,Option.map_some,Option.map_none,E3,x5,w9,o6,D6,D7,H7,H6,O3,O2,I9,F0,F1,I8,N9,O0,H9,o8,I0,o7,M7,E8,E7,l1,N5,O1,I2,M9,N1,N0,x2,A2,A4,A3,k6,N4,Q5,Q4,M5,I1,U3,M6,o9,E5,E6,x6,E4,k9,u2,k8,u3,k7,K5,O4,O5,z1,z6,F8,F7,D5,z7,s1,s2,s3,s4,s5,s6,num]
   simp
   try omega
 · simp [num,si]
 · simp [hi,hx,hx']
   try simp [s1,s2,s3,s4,s5,s6,c1,c2,c3,c4,c5,hm5,f8,F9,a26,num,tx]
theorem c1w (l:List LPeer) (k:Nat) (hk:k < 8388608) (hl:l.length≤1048576):a4w Tryz.prog 121 (.own 0) 194 6 (l.map F9) [.val (num k)] (num ((k+6*l.length:Nat):Int)) ((mkL a26 6 l.length k).map F9):=by
 refine a30 mixed ok121 rfl ?_
 unfold ir121
 rw [b6]
 simp [d9,f9,j8,b8,d7,V1,PV.nm,num]
 refine j7 (X:=Nat) (fun i=>⟨t6 [(0,.own 900),(1,.val (num ((k+6*i:Nat):Int))),(5,.val (num i))],u1 [(900,.row 194 6 ((mkU a26 6 l k i).map F9))]⟩) (fun i=>i≤l.length) (fun i=>l.length - i) 0 (Le.mk _ _ ?_ ?_) (Nat.zero_le _) ?_
 · simp [upd,num,PV.kill]
 · simp [a6a]
 · intro i hi
   have hml:=a83 a26 6 l k i hi
   by_cases h1:i < l.length
   · have hmi:i < (mkU a26 6 l k i).length:=by omega
     have hset:=a82 a26 6 l k i h1
     refine c31 ((mkU a26 6 l k i).map F9) (k+6*i) i (tx (mkU a26 6 l k i)[i].target.url) (num (mkU a26 6 l k i)[i].target.prio) (num (mkU a26 6 l k i)[i].target.weight) (num (mkU a26 6 l k i)[i].fails) (num (mkU a26 6 l k i)[i].retry) (.bool (mkU a26 6 l k i)[i].gone) (by simpa using hmi) (by omega) (by simp;omega) (by simp [List.getElem?_eq_getElem hmi,f8,F9]) (fun st' q0 q1 q5 qm=>?_)
     simp
     refine LoopNext.mk (i+1) h1 (by omega) (Le.mk _ _ ?_ ?_)
     · simp [q0,q1,q5,num]
       omega
     · rw [← List.map_set,hset] at qm
       simp [qm]
   · have e:i=l.length:=by omega
     subst e
     unfold ir121_l6
     simp [num,hml,a84,a1y]
theorem b2f (l:List LReport) (hx:bdS 1048576 (X2 1048576) l):d8 Tryz.prog 228 [.val (.list 4 (l.map i7))] (.ret (.own 0) [⟨174,4,l.map i7⟩]) []:=by
 refine a69 (mk:=fun i=>.own i) mixed ok228 rfl (fun _=>rfl) ?_
 unfold ir228
 rw [b6]
 have hl:l.length≤1048576:=hx.1
 simp [d9,f9,j8,b8,d7,num,G1]
 refine ⟨by omega,by omega,?_⟩
 refine j7 (X:=Nat) (fun i=>⟨t6 [(0,.val (.list 4 (l.map i7))),(3,.own 7),(4,.val (num i))],u1 [(7,.row 174 4 (a25 i7 (.agg [.int .i64 0,.int .i64 0,.int .i64 0,.str (bs [])]) l i))]⟩) (fun i=>i≤l.length) (fun i=>l.length - i) 0 (Le.mk _ _ ?_ ?_) ?_ ?_
 · simp [upd,num,PV.kill]
 · simp [upd,num,bs,a4x]
 · simp
 · intro i hi
   have hlen:=a55 i7 (.agg [.int .i64 0,.int .i64 0,.int .i64 0,.str (bs [])]) l i hi
   simp [num,G1]
   refine f7 (fun h1=>?_) (fun h1=>?_)
   · have e1:(l.map i7)[i]?.getD .nilptr=i7 l[i]:=by simp [List.getElem?_eq_getElem h1]
     have e2:=a8v i7 (.agg [.int .i64 0,.int .i64 0,.int .i64 0,.str (bs [])]) l i h1
     have e3:=a54 i7 (.agg [.int .i64 0,.int .i64 0,.int .i64 0,.str (bs [])]) l i h1
     have e4:(a25 i7 (.agg [.int .i64 0,.int .i64 0,.int .i64 0,.str (bs [])]) l i)[i]'(by omega)=(.agg [.int .i64 0,.int .i64 0,.int .i64 0,.str (bs [])]):=by
      have h9:=e2
      rw [List.getElem?_eq_getElem (show i < (a25 i7 (.agg [.int .i64 0,.int .i64 0,.int .i64 0,.str (bs [])]) l i).length by omega)] at h9
      exact h9
     simp [num,h1,e1,i7,tx,hlen,G1]
     refine b7 rfl rfl (.inl rfl) (c41 l[i] (hx.2 _ (List.getElem_mem h1))) ?_
     simp [num,h1,e1,e2,i7,tx,hlen,G1]
     refine LoopNext.mk (i+1) (by omega) (by omega) (Le.mk _ _ ?_ ?_)
     · simp [num];exact wrap_i64 (by omega) (by omega)
     · rw [← e3]
       simp [i7,num,tx,e4]
   · have e1:i=l.length:=by omega
     subst e1
     simp [num,a56,Z3,PV.pl]
theorem b8y {K:Kx (PExit→St→Prop)} (xs:List RV) (k i:Nat) (a0 a1 a2 a3:RV) (hi:i < xs.length) (hk:k < 549755813888) (hl:xs.length < 1099511627776) (hx:xs[i]?.getD .nilptr=.agg [a0,a1,a2,a3])
 (hn:∀ st':St,st'.env 0=.own 900→st'.env 1=.val (num ((k+4:Nat):Int))→st'.env 5=.val (num ((i+1:Nat):Int))→st'.mem 900=.row 174 4 (xs.set i (i7 (a06 k)))→K.k .normal st') :
 EC Tryz.prog ir122_l6 ⟨t6 [(0,.own 900),(1,.val (num k)),(5,.val (num i))],u1 [(900,.row 174 4 xs)]⟩ (K:=K):=by
 unfold ir122_l6
 have s1:IntKind.i64.wrap ((k:Int)+1)=(k:Int)+1:=wrap_i64 (by omega) (by omega)
 have s2:IntKind.i64.wrap ((k:Int)+1+1)=(k:Int)+1+1:=wrap_i64 (by omega) (by omega)
 have c1:((k+1:Nat):Int)=(k:Int)+1:=by omega
 have s3:IntKind.i64.wrap ((k:Int)+1+1+1)=(k:Int)+1+1+1:=wrap_i64 (by omega) (by omega)
 have c2:((k+2:Nat):Int)=(k:Int)+1+1:=by omega
 have s4:IntKind.i64.wrap ((k:Int)+1+1+1+1)=(k:Int)+1+1+1+1:=wrap_i64 (by omega) (by omega)
 have c3:((k+3:Nat):Int)=(k:Int)+1+1+1:=by omega
 have hmk3:d8 Tryz.prog 83 [.val (.int .i64 ((k:Int)+1+1+1))] (.ret (.val (.str (bs (lmk (k+3))))) []) []:=by
  have h:=a04 (k+3) (by omega)
  unfold num tx at h
  rwa [c3] at h
 have si:IntKind.i64.wrap ((i:Int)+1)=(i:Int)+1:=wrap_i64 (by omega) (by omega)
 have hx':xs[i]=.agg [a0,a1,a2,a3]:=by rw [← hx];simp [List.getElem?_eq_getElem hi]
 simp [num,hi,hx,s1,s2,s3,s4]
 refine b7 rfl rfl (.inl rfl) hmk3 ?_
 simp [num,hi,hx,tx,s1,s2,s3,s4]
 refine hn _ ?_ ?_ ?_ ?_
 · simp
 · simp only [x9,F5,y4,F3,y5,q7,y0,F4,l6,A5,G6,G7,j6,p5,p6,l0,y6,p9,l2,F2,x8,p8,p7,D3,D4,a0u,a0v,Option.getD_some,Option.getD_none,C0,t8,o5,D0,o4,n7,D2,n8,D1,C9,C8,H1,w6,o2,C6,v8,o1,C5,B8,C7,w5,C3,n6,v7,C4,H3,H2,B9,C1,n9,C2,w7,o3,A8,l8,B7,B6,B5,G8,u9,m8,B3,u6,l9,B2,A6,B4,u7,B0,l7,u5,B1,H0,G9,A7,u4,n5,A9,v6,n0,J1,J0,K4,J2,J6,J4,J3,K3,J5,J7,J8,J9,K2,y9,y8,y7,M0,M1,z7,F6,u0,D8,x1,K6,q8,Q1,M4,L6,N6,N8,N7,Q2,Q3,I3,I5,I4,I6,I7,N3,x3,N2,D9,E1,E2,x4,a0x,E9,x7,P9,Q0,H4,M2,M3,Option.map_some,Option.map_none,E3,x5,w9,o6,D6,D7,H7,H6,O3,O2,I9,F0,F1,I8,N9,O0,H9,o8,I0,o7,M7,E8,E7,l1,N5,O1,I2,M9,N1,N0,x2,A2,A4,A3,k6,N4,Q5,Q4,M5,I1,U3,M6,o9,E5,E6,x6,E4,k9,u2,k8,u3,k7,K5,O4,O5,z1,z6,F8,F7,D5,z7,s1,s2,s3,s4,num]
   simp
   try omega
 · simp [num,si]
 · simp [hi,hx,hx']
   try simp [s1,s2,s3,s4,c1,c2,c3,i7,a06,num,tx]
theorem b69 (l:List LReport) (k:Nat) (hk:k < 8388608) (hl:l.length≤1048576):a4w Tryz.prog 122 (.own 0) 174 4 (l.map i7) [.val (num k)] (num ((k+4*l.length:Nat):Int)) ((mkL a06 4 l.length k).map i7):=by
 refine a30 mixed ok122 rfl ?_
 unfold ir122
 rw [b6]
 simp [d9,f9,j8,b8,d7,V1,PV.nm,num]
 refine j7 (X:=Nat) (fun i=>⟨t6 [(0,.own 900),(1,.val (num ((k+4*i:Nat):Int))),(5,.val (num i))],u1 [(900,.row 174 4 ((mkU a06 4 l k i).map i7))]⟩) (fun i=>i≤l.length) (fun i=>l.length - i) 0 (Le.mk _ _ ?_ ?_) (Nat.zero_le _) ?_
 · simp [upd,num,PV.kill]
 · simp [a6a]
 · intro i hi
   have hml:=a83 a06 4 l k i hi
   by_cases h1:i < l.length
   · have hmi:i < (mkU a06 4 l k i).length:=by omega
     have hset:=a82 a06 4 l k i h1
     refine b8y ((mkU a06 4 l k i).map i7) (k+4*i) i (num (mkU a06 4 l k i)[i].id) (num (mkU a06 4 l k i)[i].born) (num (mkU a06 4 l k i)[i].tries) (tx (mkU a06 4 l k i)[i].body) (by simpa using hmi) (by omega) (by simp;omega) (by simp [List.getElem?_eq_getElem hmi,i7]) (fun st' q0 q1 q5 qm=>?_)
     simp
     refine LoopNext.mk (i+1) h1 (by omega) (Le.mk _ _ ?_ ?_)
     · simp [q0,q1,q5,num]
       omega
     · rw [← List.map_set,hset] at qm
       simp [qm]
   · have e:i=l.length:=by omega
     subst e
     unfold ir122_l6
     simp [num,hml,a84,a1y]
theorem b3r (l:List LEntry) (hx:l.length≤1048576):d8 Tryz.prog 52 [.val (.list 3 (l.map G0))] (.ret (.own 0) [⟨157,3,l.map G0⟩]) []:=by
 refine a69 (mk:=fun i=>.own i) mixed ok52 rfl (fun _=>rfl) ?_
 unfold ir52
 rw [b6]
 have hl:l.length≤1048576:=hx
 simp [d9,f9,j8,b8,d7,num,G1]
 refine ⟨by omega,by omega,?_⟩
 refine j7 (X:=Nat) (fun i=>⟨t6 [(0,.val (.list 3 (l.map G0))),(3,.own 7),(4,.val (num i))],u1 [(7,.row 157 3 (a25 G0 (.agg [.int .i64 0,.int .i64 0,.int .i64 0]) l i))]⟩) (fun i=>i≤l.length) (fun i=>l.length - i) 0 (Le.mk _ _ ?_ ?_) ?_ ?_
 · simp [upd,num,PV.kill]
 · simp [upd,num,bs,a4x]
 · simp
 · intro i hi
   have hlen:=a55 G0 (.agg [.int .i64 0,.int .i64 0,.int .i64 0]) l i hi
   simp [num,G1]
   refine f7 (fun h1=>?_) (fun h1=>?_)
   · have e1:(l.map G0)[i]?.getD .nilptr=G0 l[i]:=by simp [List.getElem?_eq_getElem h1]
     have e2:=a8v G0 (.agg [.int .i64 0,.int .i64 0,.int .i64 0]) l i h1
     have e3:=a54 G0 (.agg [.int .i64 0,.int .i64 0,.int .i64 0]) l i h1
     have e4:(a25 G0 (.agg [.int .i64 0,.int .i64 0,.int .i64 0]) l i)[i]'(by omega)=(.agg [.int .i64 0,.int .i64 0,.int .i64 0]):=by
      have h9:=e2
      rw [List.getElem?_eq_getElem (show i < (a25 G0 (.agg [.int .i64 0,.int .i64 0,.int .i64 0]) l i).length by omega)] at h9
      exact h9
     simp [num,h1,e1,G0,tx,hlen,G1]
     refine b7 rfl rfl (.inl rfl) (c8e l[i] trivial) ?_
     simp [num,h1,e1,e2,G0,tx,hlen,G1]
     refine LoopNext.mk (i+1) (by omega) (by omega) (Le.mk _ _ ?_ ?_)
     · simp [num];exact wrap_i64 (by omega) (by omega)
     · rw [← e3]
       simp [G0,num,tx,e4]
   · have e1:i=l.length:=by omega
     subst e1
     simp [num,a56,Z3,PV.pl]
theorem c03 {K:Kx (PExit→St→Prop)} (xs:List RV) (k i:Nat) (a0 a1 a2:RV) (hi:i < xs.length) (hk:k < 549755813888) (hl:xs.length < 1099511627776) (hx:xs[i]?.getD .nilptr=.agg [a0,a1,a2])
 (hn:∀ st':St,st'.env 0=.own 900→st'.env 1=.val (num ((k+3:Nat):Int))→st'.env 5=.val (num ((i+1:Nat):Int))→st'.mem 900=.row 157 3 (xs.set i (G0 (a29 k)))→K.k .normal st') :
 EC Tryz.prog ir64_l6 ⟨t6 [(0,.own 900),(1,.val (num k)),(5,.val (num i))],u1 [(900,.row 157 3 xs)]⟩ (K:=K):=by
 unfold ir64_l6
 have s1:IntKind.i64.wrap ((k:Int)+1)=(k:Int)+1:=wrap_i64 (by omega) (by omega)
 have s2:IntKind.i64.wrap ((k:Int)+1+1)=(k:Int)+1+1:=wrap_i64 (by omega) (by omega)
 have c1:((k+1:Nat):Int)=(k:Int)+1:=by omega
 have s3:IntKind.i64.wrap ((k:Int)+1+1+1)=(k:Int)+1+1+1:=wrap_i64 (by omega) (by omega)
 have c2:((k+2:Nat):Int)=(k:Int)+1+1:=by omega
 have si:IntKind.i64.wrap ((i:Int)+1)=(i:Int)+1:=wrap_i64 (by omega) (by omega)
 have hx':xs[i]=.agg [a0,a1,a2]:=by rw [← hx];simp [List.getElem?_eq_getElem hi]
 simp [num,hi,hx,s1,s2,s3]
 refine hn _ ?_ ?_ ?_ ?_
 · simp
 · simp only [x9,F5,y4,F3,y5,q7,y0,F4,l6,A5,G6,G7,j6,p5,p6,l0,y6,p9,l2,F2,x8,p8,p7,D3,D4,a0u,a0v,Option.getD_some,Option.getD_none,C0,t8,o5,D0,o4,n7,D2,n8,D1,C9,C8,H1,w6,o2,C6,v8,o1,C5,B8,C7,w5,C3,n6,v7,C4,H3,H2,B9,C1,n9,C2,w7,o3,A8,l8,B7,B6,B5,G8,u9,m8,B3,u6,l9,B2,A6,B4,u7,B0,l7,u5,B1,H0,G9,A7,u4,n5,A9,v6,n0,J1,J0,K4,J2,J6,J4,J3,K3,J5,J7,J8,J9,K2,y9,y8,y7,M0,M1,z7,F6,u0,D8,x1,K6,q8,Q1,M4,L6,N6,N8,N7,Q2,Q3,I3,I5,I4,I6,I7,N3,x3,N2,D9,E1,E2,x4,a0x,E9,x7,P9,Q0,H4,M2,M3,Option.map_some,Option.map_none,E3,x5,w9,o6,D6,D7,H7,H6,O3,O2,I9,F0,F1,I8,N9,O0,H9,o8,I0,o7,M7,E8,E7,l1,N5,O1,I2,M9,N1,N0,x2,A2,A4,A3,k6,N4,Q5,Q4,M5,I1,U3,M6,o9,E5,E6,x6,E4,k9,u2,k8,u3,k7,K5,O4,O5,z1,z6,F8,F7,D5,z7,s1,s2,s3,num]
   simp
   try omega
 · simp [num,si]
 · simp [hi,hx,hx']
   try simp [s1,s2,s3,c1,c2,G0,a29,num,tx]
theorem b9j (l:List LEntry) (k:Nat) (hk:k < 8388608) (hl:l.length≤1048576):a4w Tryz.prog 64 (.own 0) 157 3 (l.map G0) [.val (num k)] (num ((k+3*l.length:Nat):Int)) ((mkL a29 3 l.length k).map G0):=by
 refine a30 mixed ok64 rfl ?_
 unfold ir64
 rw [b6]
 simp [d9,f9,j8,b8,d7,V1,PV.nm,num]
 refine j7 (X:=Nat) (fun i=>⟨t6 [(0,.own 900),(1,.val (num ((k+3*i:Nat):Int))),(5,.val (num i))],u1 [(900,.row 157 3 ((mkU a29 3 l k i).map G0))]⟩) (fun i=>i≤l.length) (fun i=>l.length - i) 0 (Le.mk _ _ ?_ ?_) (Nat.zero_le _) ?_
 · simp [upd,num,PV.kill]
 · simp [a6a]
 · intro i hi
   have hml:=a83 a29 3 l k i hi
   by_cases h1:i < l.length
   · have hmi:i < (mkU a29 3 l k i).length:=by omega
     have hset:=a82 a29 3 l k i h1
     refine c03 ((mkU a29 3 l k i).map G0) (k+3*i) i (num (mkU a29 3 l k i)[i].kind) (num (mkU a29 3 l k i)[i].id) (num (mkU a29 3 l k i)[i].at_) (by simpa using hmi) (by omega) (by simp;omega) (by simp [List.getElem?_eq_getElem hmi,G0]) (fun st' q0 q1 q5 qm=>?_)
     simp
     refine LoopNext.mk (i+1) h1 (by omega) (Le.mk _ _ ?_ ?_)
     · simp [q0,q1,q5,num]
       omega
     · rw [← List.map_set,hset] at qm
       simp [qm]
   · have e:i=l.length:=by omega
     subst e
     unfold ir64_l6
     simp [num,hml,a84,a1y]
end Go.Proofs
end
section
namespace Go.Proofs
open Go.PW Go.KP
attribute [local simp] RV.cells RV.one PV.cells PV.solid PV.one G1 i6 L8 K7 RV.ofCells elems PV.killL
variable [GF]
theorem c4y (n k:Nat) (hk:k < 8388608) (hl:n≤1048576):d8 Tryz.prog 19 [.val (.list 1 ((mkL a27 1 n k).map num)),.val (num k)] (.ret (.val (num ((k+1*n:Nat):Int))) []) []:=by
 refine f6 mixed ok19 rfl (fun _=>rfl) ?_
 unfold ir19
 rw [b6]
 have hlen:=a1y a27 1 n k
 simp [d9,f9,j8,b8,d7,num]
 refine j7 (X:=Nat) (fun i=>⟨t6 [(0,.val (.list 1 ((mkL a27 1 n k).map num))),(1,.val (num ((k+1*i:Nat):Int))),(5,.val (num i))],u1 []⟩) (fun i=>i≤n) (fun i=>n - i) 0 (Le.mk _ _ ?_ ?_) (Nat.zero_le _) ?_
 · simp [upd,num,PV.kill]
 · simp
 · intro i hi
   unfold ir19_l6
   by_cases h1:i < n
   · have hi':i < (mkL a27 1 n k).length:=by omega
     have hat:(mkL a27 1 n k)[i]=a27 (k+1*i):=mkL_at h1
     have e1:((mkL a27 1 n k).map num)[i]?.getD .nilptr=num (a27 (k+1*i)):=by simp [List.getElem?_eq_getElem hi',hat]
     generalize hj:k+1*i=j at *
     have hjj:j < 1099511627776:=by omega
     have s1:IntKind.i64.wrap ((j:Int)+1)=((j+1:Nat):Int):=by rw [wrap_i64 (by omega) (by omega)];omega
     have si:IntKind.i64.wrap ((i:Int)+1)=((i+1:Nat):Int):=by rw [wrap_i64 (by omega) (by omega)];omega
     have hat2:a27 j=(j:Int):=rfl
     simp [num,a1y,h1,e1,hat,hat2,tx,s1,si]
     refine LoopNext.mk (i+1) h1 (by omega) (Le.mk _ _ ?_ ?_)
     · simp [num,s1,si]
       omega
     · simp
   · have e:i=n:=by omega
     subst e
     simp [num,a1y]
end Go.Proofs
end
