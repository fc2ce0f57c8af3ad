/- Fc: merged out of KXm, KXa. -/
import Derived.Test.YtapjdgcfakhpaaaGreatDoorPWw
import Derived.Test.YtapjdgcfakhpaaaGreatDoorCa
import Derived.Test.YtapjdgcfakhpaaaGreatDoorAc
import Derived.Test.YtapjdgcfakhpaaaGreatDoorBa
import Derived.Test.YtapjdgcfakhpaaaGreatDoorCc
import Derived.Test.YtapjdgcfakhpaaaGreatDoorPWae
set_option linter.unusedSectionVars false
set_option linter.unusedSimpArgs false
set_option linter.unusedVariables false
set_option maxRecDepth 100000
section
namespace Go.Proofs
open Go.PW Go.KP
attribute [local simp] RV.cells RV.one PV.cells PV.solid PV.one w5 i6 n7 n6 RV.ofCells elems PV.killL
variable [GF]
theorem a3y (k:Nat) (hk:k < 1099511627776):f7 Tryz.prog 83 [.val (num k)] (.ret (.val (tx (lmk k))) []) []:=by
 refine f9 mixed ok83 rfl (fun _=>rfl) ?_
 unfold ir83
 rw [b9]
 unfold lmk
 by_cases h0:k=0
 · subst h0
   simp [d9,j4,l0,b7,d8,num,tx,bs]
 · have h0':¬ (k:Int)≤0:=by omega
   rw [if_neg h0]
   simp [d9,j4,l0,b7,d8,num,h0',h0]
   refine l4 (X:=Nat×Tx) (fun x=>⟨u0 [(0,.val (num x.1)),(3,.val (tx x.2))],u4 []⟩) (fun x=>x.1≤k∧x.2.length+x.1≤k∧b1f x.1 x.2=b1f k []) (fun x=>x.1) (k,[]) (Le.mk _ _ ?_ ?_) ⟨Nat.le_refl _,by simp,rfl⟩ ?_
   · simp [upd,num,tx,bs]
   · simp
   · rintro ⟨m,out⟩ ⟨hm,hlen,hF⟩
     simp only at hm hlen hF
     by_cases hz:m=0
     · subst hz
       rw [b97] at hF
       subst hF
       have hlk:1+(b1f k []).length≤9223372036854775807:=by omega
       simp [num,tx,a8v,l1,b6,hlk]
     · have hp:(0:Int) < (m:Int):=by omega
       have hp2:0 < m:=by omega
       rw [c12 hz] at hF
       have g6:(m:Int).tdiv 10=((m / 10:Nat):Int):=by rw [Int.tdiv_eq_ediv_of_nonneg (by omega)];omega
       have g7:(m:Int).tmod 10=((m % 10:Nat):Int):=by rw [Int.tmod_eq_emod_of_nonneg (by omega)];omega
       have ha:m / 10 < m:=Nat.div_lt_self (by omega) (by omega)
       have hb:m % 10 < 10:=Nat.mod_lt _ (by omega)
       have hl10:(UInt8.ofNat (48+m % 10) :: out).length+m / 10≤k:=by simp only [List.length_cons];omega
       have g8:IntKind.i64.wrap ((m / 10:Nat):Int)=((m / 10:Nat):Int):=wrap_i64 (by omega) (by omega)
       have g4:IntKind.i64.wrap (48+((m % 10:Nat):Int))=48+((m % 10:Nat):Int):=wrap_i64 (by omega) (by omega)
       have g5:IntKind.u8.wrap (48+((m % 10:Nat):Int))=48+((m % 10:Nat):Int):=a9a (by omega) (by omega)
       have g9:=c24 (m % 10)
       generalize m / 10=a at *
       generalize m % 10=b at *
       have hsz:1+out.length≤9223372036854775807:=by simp only [List.length_cons] at hl10;omega
       simp [d9,j4,l0,b7,d8,num,tx,hp,hp2,hz,g6,g7,g8,g4,g5,RV.isU8,g9,b6,l1]
       refine ⟨hsz,LoopNext.mk (a,UInt8.ofNat (48+b) :: out) ⟨by omega,hl10,hF⟩ ha (Le.mk _ _ ?_ ?_)⟩
       · simp [num,tx]
       · simp
end Go.Proofs
end
section
namespace Go.Proofs
open Go.PW Go.KP
attribute [local simp] RV.cells RV.one PV.cells PV.solid PV.one w5 i6 n7 n6 RV.ofCells elems PV.killL
variable [GF]
theorem a7y (l:List Tx) (hx:bdS 1048576 (fun t=>t.length≤1048576) l):f7 Tryz.prog 70 [.val (.list 1 (l.map tx))] (.ret (.own 0) [⟨9,1,l.map tx⟩]) []:=by
 refine call_mk (mk:=fun i=>.own i) mixed ok70 rfl (fun _=>rfl) ?_
 unfold ir70
 rw [b9]
 have hl:l.length≤1048576:=hx.1
 simp [d9,j4,l0,b7,d8,num,w5]
 refine ⟨by omega,by omega,?_⟩
 refine l4 (X:=Nat) (fun i=>⟨u0 [(0,.val (.list 1 (l.map tx))),(3,.own 7),(4,.val (num i))],u4 [(7,.row 9 1 (a6u tx (.str (bs [])) l i))]⟩) (fun i=>i≤l.length) (fun i=>l.length - i) 0 (Le.mk _ _ ?_ ?_) ?_ ?_
 · simp [upd,num,PV.kill]
 · simp [upd,num,bs,b9p]
 · simp
 · intro i hi
   have hlen:=c1b tx (.str (bs [])) l i hi
   simp [num,w5]
   refine i7 (fun h1=>?_) (fun h1=>?_)
   · have e1:(l.map tx)[i]?.getD .nilptr=tx l[i]:=by simp [List.getElem?_eq_getElem h1]
     have e2:=upTo_at tx (.str (bs [])) l i h1
     have e3:=c1a tx (.str (bs [])) l i h1
     have e4:(a6u tx (.str (bs [])) l i)[i]'(by omega)=(.str (bs [])):=by
      have h9:=e2
      rw [List.getElem?_eq_getElem (show i < (a6u tx (.str (bs [])) l i).length by omega)] at h9
      exact h9
     simp [num,h1,e1,tx,hlen,w5]
     refine LoopNext.mk (i+1) (by omega) (by omega) (Le.mk _ _ ?_ ?_)
     · simp [num];exact wrap_i64 (by omega) (by omega)
     · rw [← e3]
       simp [num,tx,e4]
   · have e1:i=l.length:=by omega
     subst e1
     simp [num,c1c,a0t,PV.pl]
theorem b92 {K:Kx (PExit→St→Prop)} (xs:List RV) (k i:Nat) (a0:ByteArray) (hi:i < xs.length) (hk:k < 549755813888) (hl:xs.length < 1099511627776) (hx:xs[i]?.getD .nilptr=.str a0)
 (hn:∀ st':St,st'.env 0=.own 900→st'.env 1=.val (num ((k+1:Nat):Int))→st'.env 5=.val (num ((i+1:Nat):Int))→st'.mem 900=.row 9 1 (xs.set i (tx (lmk k)))→K.k .normal st') :
 EC Tryz.prog ir32_l6 ⟨u0 [(0,.own 900),(1,.val (num k)),(5,.val (num i))],u4 [(900,.row 9 1 xs)]⟩ (K:=K):=by
 unfold ir32_l6
 have s1:IntKind.i64.wrap ((k:Int)+1)=(k:Int)+1:=wrap_i64 (by omega) (by omega)
 have hmk0:f7 Tryz.prog 83 [.val (.int .i64 ((k:Int)))] (.ret (.val (.str (bs (lmk (k+0))))) []) []:=by
  have h:=a3y (k+0) (by omega)
  exact h
 have si:IntKind.i64.wrap ((i:Int)+1)=(i:Int)+1:=wrap_i64 (by omega) (by omega)
 have hx':xs[i]=.str a0:=by rw [← hx];simp [List.getElem?_eq_getElem hi]
 simp [num,hi]
 refine d7 rfl rfl (.inl rfl) hmk0 ?_
 simp [num,hi,hx,tx,s1]
 refine hn _ ?_ ?_ ?_ ?_
 · simp
 · simp only [z7,H0,A0,G8,A1,t8,z8,G9,o0,C0,I4,I5,k9,r8,r9,m8,A2,t7,n5,G7,z6,t6,s8,E9,F0,a27,a28,Option.getD_some,Option.getD_none,D5,u7,q7,E6,p9,o8,E8,o9,E7,E5,E4,I9,x8,p7,E2,x6,p6,E1,D3,E3,x7,D8,o7,x5,D9,J1,J0,D4,D6,p5,D7,x9,p8,C3,o2,D2,D1,D0,I6,x3,o4,C8,x1,o3,C7,C1,C9,x2,C5,o1,w9,C6,I8,I7,C2,w8,o6,C4,x4,o5,L2,K9,M3,L3,L7,L5,L4,M2,L6,L8,L9,M0,M1,A6,A5,A4,O5,O6,u2,H1,u9,F4,y4,M6,u1,U8,P0,M8,Q3,Q5,Q4,U9,V0,K2,K4,K3,K5,K6,Q0,y6,P9,F5,F6,F7,y7,a3d,G4,z1,U6,U7,J2,O7,O8,Option.map_some,Option.map_none,F8,y8,y0,q8,F2,F3,J4,J3,R0,Q9,K8,G5,G6,K7,Q6,Q7,J6,r6,J7,q9,P4,G3,G2,n0,Q2,Q8,J9,P6,P8,P7,y5,B7,B9,B8,l5,Q1,V2,V1,P1,J8,a0g,P2,r7,G0,G1,y9,F9,l9,w6,l7,w7,l6,M5,R1,R2,A7,A8,H3,H2,F1,u2,s1,num]
   simp
   try omega
 · simp [num,si]
 · simp [hi,hx,hx']
   try simp [s1,num,tx]
theorem a5v (l:List Tx) (k:Nat) (hk:k < 8388608) (hl:l.length≤1048576):a5j Tryz.prog 32 (.own 0) 9 1 (l.map tx) [.val (num k)] (num ((k+1*l.length:Nat):Int)) ((mkL lmk 1 l.length k).map tx):=by
 refine a6n mixed ok32 rfl ?_
 unfold ir32
 rw [b9]
 simp [d9,j4,l0,b7,d8,R4,PV.nm,num]
 refine l4 (X:=Nat) (fun i=>⟨u0 [(0,.own 900),(1,.val (num ((k+1*i:Nat):Int))),(5,.val (num i))],u4 [(900,.row 9 1 ((mkU lmk 1 l k i).map tx))]⟩) (fun i=>i≤l.length) (fun i=>l.length - i) 0 (Le.mk _ _ ?_ ?_) (Nat.zero_le _) ?_
 · simp [upd,num,PV.kill]
 · simp [b4s]
 · intro i hi
   have hml:=b82 lmk 1 l k i hi
   by_cases h1:i < l.length
   · have hmi:i < (mkU lmk 1 l k i).length:=by omega
     have hset:=b81 lmk 1 l k i h1
     refine b92 ((mkU lmk 1 l k i).map tx) (k+1*i) i (bs (mkU lmk 1 l k i)[i]) (by simpa using hmi) (by omega) (by simp;omega) (by simp [List.getElem?_eq_getElem hmi,tx]) (fun st' q0 q1 q5 qm=>?_)
     simp
     refine LoopNext.mk (i+1) h1 (by omega) (Le.mk _ _ ?_ ?_)
     · simp [q0,q1,q5,num]
       omega
     · rw [← List.map_set,hset] at qm
       simp [qm]
   · have e:i=l.length:=by omega
     subst e
     unfold ir32_l6
     simp [num,hml,b83,a07]
theorem b21 {K:Kx (PExit→St→Prop)} (xs:List RV) (k i:Nat) (a0 a1 a2:RV) (hi:i < xs.length) (hk:k < 549755813888) (hl:xs.length < 1099511627776) (hx:xs[i]?.getD .nilptr=.agg [a0,a1,a2])
 (hn:∀ st':St,st'.env 0=.own 900→st'.env 1=.val (num ((k+3:Nat):Int))→st'.env 5=.val (num ((i+1:Nat):Int))→st'.mem 900=.row 185 3 (xs.set i (l2 (H4 k)))→K.k .normal st') :
 EC Tryz.prog ir79_l6 ⟨u0 [(0,.own 900),(1,.val (num k)),(5,.val (num i))],u4 [(900,.row 185 3 xs)]⟩ (K:=K):=by
 unfold ir79_l6
 have s1:IntKind.i64.wrap ((k:Int)+1)=(k:Int)+1:=wrap_i64 (by omega) (by omega)
 have hmk0:f7 Tryz.prog 83 [.val (.int .i64 ((k:Int)))] (.ret (.val (.str (bs (lmk (k+0))))) []) []:=by
  have h:=a3y (k+0) (by omega)
  exact h
 have s2:IntKind.i64.wrap ((k:Int)+1+1)=(k:Int)+1+1:=wrap_i64 (by omega) (by omega)
 have c1:((k+1:Nat):Int)=(k:Int)+1:=by omega
 have s3:IntKind.i64.wrap ((k:Int)+1+1+1)=(k:Int)+1+1+1:=wrap_i64 (by omega) (by omega)
 have c2:((k+2:Nat):Int)=(k:Int)+1+1:=by omega
 have si:IntKind.i64.wrap ((i:Int)+1)=(i:Int)+1:=wrap_i64 (by omega) (by omega)
 have hx':xs[i]=.agg [a0,a1,a2]:=by rw [← hx];simp [List.getElem?_eq_getElem hi]
 simp [num,hi]
 refine d7 rfl rfl (.inl rfl) hmk0 ?_
 simp [num,hi,hx,tx,s1,s2,s3]
 refine hn _ ?_ ?_ ?_ ?_
 · simp
 · simp only [z7,H0,A0,G8,A1,t8,z8,G9,o0,C0,I4,I5,k9,r8,r9,m8,A2,t7,n5,G7,z6,t6,s8,E9,F0,a27,a28,Option.getD_some,Option.getD_none,D5,u7,q7,E6,p9,o8,E8,o9,E7,E5,E4,I9,x8,p7,E2,x6,p6,E1,D3,E3,x7,D8,o7,x5,D9,J1,J0,D4,D6,p5,D7,x9,p8,C3,o2,D2,D1,D0,I6,x3,o4,C8,x1,o3,C7,C1,C9,x2,C5,o1,w9,C6,I8,I7,C2,w8,o6,C4,x4,o5,L2,K9,M3,L3,L7,L5,L4,M2,L6,L8,L9,M0,M1,A6,A5,A4,O5,O6,u2,H1,u9,F4,y4,M6,u1,U8,P0,M8,Q3,Q5,Q4,U9,V0,K2,K4,K3,K5,K6,Q0,y6,P9,F5,F6,F7,y7,a3d,G4,z1,U6,U7,J2,O7,O8,Option.map_some,Option.map_none,F8,y8,y0,q8,F2,F3,J4,J3,R0,Q9,K8,G5,G6,K7,Q6,Q7,J6,r6,J7,q9,P4,G3,G2,n0,Q2,Q8,J9,P6,P8,P7,y5,B7,B9,B8,l5,Q1,V2,V1,P1,J8,a0g,P2,r7,G0,G1,y9,F9,l9,w6,l7,w7,l6,M5,R1,R2,A7,A8,H3,H2,F1,u2,s1,s2,s3,num]
   simp
   try omega
 · simp [num,si]
 · simp [hi,hx,hx']
   try simp [s1,s2,s3,c1,c2,l2,H4,num,tx]
theorem b1n (l:List LTarget) (k:Nat) (hk:k < 8388608) (hl:l.length≤1048576):a5j Tryz.prog 79 (.own 0) 185 3 (l.map l2) [.val (num k)] (num ((k+3*l.length:Nat):Int)) ((mkL H4 3 l.length k).map l2):=by
 refine a6n mixed ok79 rfl ?_
 unfold ir79
 rw [b9]
 simp [d9,j4,l0,b7,d8,R4,PV.nm,num]
 refine l4 (X:=Nat) (fun i=>⟨u0 [(0,.own 900),(1,.val (num ((k+3*i:Nat):Int))),(5,.val (num i))],u4 [(900,.row 185 3 ((mkU H4 3 l k i).map l2))]⟩) (fun i=>i≤l.length) (fun i=>l.length - i) 0 (Le.mk _ _ ?_ ?_) (Nat.zero_le _) ?_
 · simp [upd,num,PV.kill]
 · simp [b4s]
 · intro i hi
   have hml:=b82 H4 3 l k i hi
   by_cases h1:i < l.length
   · have hmi:i < (mkU H4 3 l k i).length:=by omega
     have hset:=b81 H4 3 l k i h1
     refine b21 ((mkU H4 3 l k i).map l2) (k+3*i) i (tx (mkU H4 3 l k i)[i].url) (num (mkU H4 3 l k i)[i].prio) (num (mkU H4 3 l k i)[i].weight) (by simpa using hmi) (by omega) (by simp;omega) (by simp [List.getElem?_eq_getElem hmi,l2]) (fun st' q0 q1 q5 qm=>?_)
     simp
     refine LoopNext.mk (i+1) h1 (by omega) (Le.mk _ _ ?_ ?_)
     · simp [q0,q1,q5,num]
       omega
     · rw [← List.map_set,hset] at qm
       simp [qm]
   · have e:i=l.length:=by omega
     subst e
     unfold ir79_l6
     simp [num,hml,b83,a07]
end Go.Proofs
end
