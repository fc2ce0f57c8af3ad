/- Fc: merged out of KXm, KXa, KXh. -/
import Derived.Test.YtapjdgcfakhpaaaGreatDoorPWw
import Derived.Test.YtapjdgcfakhpaaaGreatDoorCa
import Derived.Test.YtapjdgcfakhpaaaGreatDoorAc
import Derived.Test.YtapjdgcfakhpaaaGreatDoorBa
import Derived.Test.YtapjdgcfakhpaaaGreatDoorCc
import Derived.Test.YtapjdgcfakhpaaaGreatDoorPWae
set_option linter.unusedSectionVars false
set_option linter.unusedSimpArgs false
set_option linter.unusedVariables false
set_option maxRecDepth 100000
section
namespace Go.Proofs
open Go.PW Go.KP
attribute [local simp] RV.cells RV.one PV.cells PV.solid PV.one G6 i7 M3 L4 RV.ofCells elems PV.killL
variable [GF]
theorem a0u (k:Nat) (hk:k < 1099511627776):d8 Tryz.prog 83 [.val (num k)] (.ret (.val (tx (lmk k))) []) []:=by
 refine f8 mixed ok83 rfl (fun _=>rfl) ?_
 unfold ir83
 rw [b6]
 unfold lmk
 by_cases h0:k=0
 · subst h0
   simp [d9,i6,j9,b9,d7,num,tx,bs]
 · have h0':¬ (k:Int)≤0:=by omega
   rw [if_neg h0]
   simp [d9,i6,j9,b9,d7,num,h0',h0]
   refine j8 (X:=Nat×Tx) (fun x=>⟨u0 [(0,.val (num x.1)),(3,.val (tx x.2))],u5 []⟩) (fun x=>x.1≤k∧x.2.length+x.1≤k∧b7f x.1 x.2=b7f k []) (fun x=>x.1) (k,[]) (Le.mk _ _ ?_ ?_) ⟨Nat.le_refl _,by simp,rfl⟩ ?_
   · simp [upd,num,tx,bs]
   · simp
   · rintro ⟨m,out⟩ ⟨hm,hlen,hF⟩
     simp only at hm hlen hF
     by_cases hz:m=0
     · subst hz
       rw [c7q] at hF
       subst hF
       have hlk:1+(b7f k []).length≤9223372036854775807:=by omega
       simp [num,tx,a0o,l4,b8,hlk]
     · have hp:(0:Int) < (m:Int):=by omega
       have hp2:0 < m:=by omega
       rw [d0g hz] at hF
       have g6:(m:Int).tdiv 10=((m / 10:Nat):Int):=by rw [Int.tdiv_eq_ediv_of_nonneg (by omega)];omega
       have g7:(m:Int).tmod 10=((m % 10:Nat):Int):=by rw [Int.tmod_eq_emod_of_nonneg (by omega)];omega
       have ha:m / 10 < m:=Nat.div_lt_self (by omega) (by omega)
       have hb:m % 10 < 10:=Nat.mod_lt _ (by omega)
       have hl10:(UInt8.ofNat (48+m % 10) :: out).length+m / 10≤k:=by simp only [List.length_cons];omega
       have g8:IntKind.i64.wrap ((m / 10:Nat):Int)=((m / 10:Nat):Int):=wrap_i64 (by omega) (by omega)
       have g4:IntKind.i64.wrap (48+((m % 10:Nat):Int))=48+((m % 10:Nat):Int):=wrap_i64 (by omega) (by omega)
       have g5:IntKind.u8.wrap (48+((m % 10:Nat):Int))=48+((m % 10:Nat):Int):=b38 (by omega) (by omega)
       have g9:=d1u (m % 10)
       generalize m / 10=a at *
       generalize m % 10=b at *
       have hsz:1+out.length≤9223372036854775807:=by simp only [List.length_cons] at hl10;omega
       simp [d9,i6,j9,b9,d7,num,tx,hp,hp2,hz,g6,g7,g8,g4,g5,RV.isU8,g9,b8,l4]
       refine ⟨hsz,LoopNext.mk (a,UInt8.ofNat (48+b) :: out) ⟨by omega,hl10,hF⟩ ha (Le.mk _ _ ?_ ?_)⟩
       · simp [num,tx]
       · simp
end Go.Proofs
end
section
namespace Go.Proofs
open Go.PW Go.KP
attribute [local simp] RV.cells RV.one PV.cells PV.solid PV.one G6 i7 M3 L4 RV.ofCells elems PV.killL
variable [GF]
theorem b2q (l:List Tx) (hx:bdS 1048576 (fun t=>t.length≤1048576) l):d8 Tryz.prog 70 [.val (.list 1 (l.map tx))] (.ret (.own 0) [⟨9,1,l.map tx⟩]) []:=by
 refine a7j (mk:=fun i=>.own i) mixed ok70 rfl (fun _=>rfl) ?_
 unfold ir70
 rw [b6]
 have hl:l.length≤1048576:=hx.1
 simp [d9,i6,j9,b9,d7,num,G6]
 refine ⟨by omega,by omega,?_⟩
 refine j8 (X:=Nat) (fun i=>⟨u0 [(0,.val (.list 1 (l.map tx))),(3,.own 7),(4,.val (num i))],u5 [(7,.row 9 1 (a3g tx (.str (bs [])) l i))]⟩) (fun i=>i≤l.length) (fun i=>l.length - i) 0 (Le.mk _ _ ?_ ?_) ?_ ?_
 · simp [upd,num,PV.kill]
 · simp [upd,num,bs,a47]
 · simp
 · intro i hi
   have hlen:=a6h tx (.str (bs [])) l i hi
   simp [num,G6]
   refine f7 (fun h1=>?_) (fun h1=>?_)
   · have e1:(l.map tx)[i]?.getD .nilptr=tx l[i]:=by simp [List.getElem?_eq_getElem h1]
     have e2:=a86 tx (.str (bs [])) l i h1
     have e3:=a6g tx (.str (bs [])) l i h1
     have e4:(a3g tx (.str (bs [])) l i)[i]'(by omega)=(.str (bs [])):=by
      have h9:=e2
      rw [List.getElem?_eq_getElem (show i < (a3g tx (.str (bs [])) l i).length by omega)] at h9
      exact h9
     simp [num,h1,e1,tx,hlen,G6]
     refine LoopNext.mk (i+1) (by omega) (by omega) (Le.mk _ _ ?_ ?_)
     · simp [num];exact wrap_i64 (by omega) (by omega)
     · rw [← e3]
       simp [num,tx,e4]
   · have e1:i=l.length:=by omega
     subst e1
     simp [num,a6i,a1p,PV.pl]
theorem c7k {K:Kx (PExit→St→Prop)} (xs:List RV) (k i:Nat) (a0:ByteArray) (hi:i < xs.length) (hk:k < 549755813888) (hl:xs.length < 1099511627776) (hx:xs[i]?.getD .nilptr=.str a0)
 (hn:∀ st':St,st'.env 0=.own 900→st'.env 1=.val (num ((k+1:Nat):Int))→st'.env 5=.val (num ((i+1:Nat):Int))→st'.mem 900=.row 9 1 (xs.set i (tx (lmk k)))→K.k .normal st') :
 EC Tryz.prog ir32_l6 ⟨u0 [(0,.own 900),(1,.val (num k)),(5,.val (num i))],u5 [(900,.row 9 1 xs)]⟩ (K:=K):=by
 unfold ir32_l6
 have s1:IntKind.i64.wrap ((k:Int)+1)=(k:Int)+1:=wrap_i64 (by omega) (by omega)
 have hmk0:d8 Tryz.prog 83 [.val (.int .i64 ((k:Int)))] (.ret (.val (.str (bs (lmk (k+0))))) []) []:=by
  have h:=a0u (k+0) (by omega)
  exact h
 have si:IntKind.i64.wrap ((i:Int)+1)=(i:Int)+1:=wrap_i64 (by omega) (by omega)
 have hx':xs[i]=.str a0:=by rw [← hx];simp [List.getElem?_eq_getElem hi]
 simp [num,hi]
 refine b7 rfl rfl (.inl rfl) hmk0 ?_
 simp [num,hi,hx,tx,s1]
 refine hn _ ?_ ?_ ?_ ?_
 · simp
 · simp only [y8,G1,z1,F9,z6,s8,y9,G0,l9,B1,H1,H2,j7,p8,p9,l1,z7,q9,l3,F8,y7,q8,q7,D9,E1,a05,a06,Option.getD_some,Option.getD_none,C6,u6,o8,D6,o7,o0,D8,o2,D7,D5,D4,H6,x3,o5,D2,x1,o4,D1,C4,D3,x2,C9,n9,w9,D0,H8,H7,C5,C7,o3,C8,x4,o6,B4,n0,C3,C2,C1,H3,w7,n6,B9,w5,n5,B8,B2,C0,w6,B6,m8,v8,B7,H5,H4,B3,v7,n8,B5,w8,n7,J6,J5,K9,J7,K3,J9,J8,K8,K2,K4,K5,K6,K7,A1,A0,z8,M5,M6,A4,G2,u7,E5,x7,L3,t6,Q6,M9,M0,O1,O3,O2,Q7,Q8,I8,J0,I9,J1,J2,N8,x9,N7,E6,E7,E8,y0,a09,F5,y6,Q4,Q5,H9,M7,M8,Option.map_some,Option.map_none,E9,y4,x6,o9,E3,E4,I2,I1,O8,O7,J4,F6,F7,J3,O4,O5,I4,p6,I5,p5,N2,F4,F3,l2,O0,O6,I7,N4,N6,N5,x8,A8,B0,A9,k7,N9,R0,Q9,N0,I6,U8,N1,p7,F1,F2,y5,F0,l0,u9,k9,v6,k8,L2,O9,P0,A2,A3,G4,G3,E2,A4,s1,num]
   simp
   try omega
 · simp [num,si]
 · simp [hi,hx,hx']
   try simp [s1,num,tx]
theorem a4g (l:List Tx) (k:Nat) (hk:k < 8388608) (hl:l.length≤1048576):a45 Tryz.prog 32 (.own 0) 9 1 (l.map tx) [.val (num k)] (num ((k+1*l.length:Nat):Int)) ((mkL lmk 1 l.length k).map tx):=by
 refine a4a mixed ok32 rfl ?_
 unfold ir32
 rw [b6]
 simp [d9,i6,j9,b9,d7,V6,PV.nm,num]
 refine j8 (X:=Nat) (fun i=>⟨u0 [(0,.own 900),(1,.val (num ((k+1*i:Nat):Int))),(5,.val (num i))],u5 [(900,.row 9 1 ((mkU lmk 1 l k i).map tx))]⟩) (fun i=>i≤l.length) (fun i=>l.length - i) 0 (Le.mk _ _ ?_ ?_) (Nat.zero_le _) ?_
 · simp [upd,num,PV.kill]
 · simp [a6l]
 · intro i hi
   have hml:=a9d lmk 1 l k i hi
   by_cases h1:i < l.length
   · have hmi:i < (mkU lmk 1 l k i).length:=by omega
     have hset:=a9c lmk 1 l k i h1
     refine c7k ((mkU lmk 1 l k i).map tx) (k+1*i) i (bs (mkU lmk 1 l k i)[i]) (by simpa using hmi) (by omega) (by simp;omega) (by simp [List.getElem?_eq_getElem hmi,tx]) (fun st' q0 q1 q5 qm=>?_)
     simp
     refine LoopNext.mk (i+1) h1 (by omega) (Le.mk _ _ ?_ ?_)
     · simp [q0,q1,q5,num]
       omega
     · rw [← List.map_set,hset] at qm
       simp [qm]
   · have e:i=l.length:=by omega
     subst e
     unfold ir32_l6
     simp [num,hml,a9e,a1o]
theorem b7r (l:List Int) (hx:l.length≤1048576):d8 Tryz.prog 167 [.val (.list 1 (l.map num))] (.ret (.own 0) [⟨3,1,l.map num⟩]) []:=by
 refine a7j (mk:=fun i=>.own i) mixed ok167 rfl (fun _=>rfl) ?_
 unfold ir167
 rw [b6]
 have hl:l.length≤1048576:=hx
 simp [d9,i6,j9,b9,d7,num,G6]
 refine ⟨by omega,by omega,?_⟩
 refine j8 (X:=Nat) (fun i=>⟨u0 [(0,.val (.list 1 (l.map num))),(3,.own 7),(4,.val (num i))],u5 [(7,.row 3 1 (a3g num (.int .i64 0) l i))]⟩) (fun i=>i≤l.length) (fun i=>l.length - i) 0 (Le.mk _ _ ?_ ?_) ?_ ?_
 · simp [upd,num,PV.kill]
 · simp [upd,num,bs,a47]
 · simp
 · intro i hi
   have hlen:=a6h num (.int .i64 0) l i hi
   simp [num,G6]
   refine f7 (fun h1=>?_) (fun h1=>?_)
   · have e1:(l.map num)[i]?.getD .nilptr=num l[i]:=by simp [List.getElem?_eq_getElem h1]
     have e2:=a86 num (.int .i64 0) l i h1
     have e3:=a6g num (.int .i64 0) l i h1
     have e4:(a3g num (.int .i64 0) l i)[i]'(by omega)=(.int .i64 0):=by
      have h9:=e2
      rw [List.getElem?_eq_getElem (show i < (a3g num (.int .i64 0) l i).length by omega)] at h9
      exact h9
     simp [num,h1,e1,tx,hlen,G6]
     refine LoopNext.mk (i+1) (by omega) (by omega) (Le.mk _ _ ?_ ?_)
     · simp [num];exact wrap_i64 (by omega) (by omega)
     · rw [← e3]
       simp [num,tx,e4]
   · have e1:i=l.length:=by omega
     subst e1
     simp [num,a6i,a1p,PV.pl]
theorem c7l {K:Kx (PExit→St→Prop)} (xs:List RV) (k i:Nat) (a0:Int) (hi:i < xs.length) (hk:k < 549755813888) (hl:xs.length < 1099511627776) (hx:xs[i]?.getD .nilptr=.int .i64 a0)
 (hn:∀ st':St,st'.env 0=.own 900→st'.env 1=.val (num ((k+1:Nat):Int))→st'.env 5=.val (num ((i+1:Nat):Int))→st'.mem 900=.row 3 1 (xs.set i (num (b1e k)))→K.k .normal st') :
 EC Tryz.prog ir18_l6 ⟨u0 [(0,.own 900),(1,.val (num k)),(5,.val (num i))],u5 [(900,.row 3 1 xs)]⟩ (K:=K):=by
 unfold ir18_l6
 have s1:IntKind.i64.wrap ((k:Int)+1)=(k:Int)+1:=wrap_i64 (by omega) (by omega)
 have si:IntKind.i64.wrap ((i:Int)+1)=(i:Int)+1:=wrap_i64 (by omega) (by omega)
 have hx':xs[i]=.int .i64 a0:=by rw [← hx];simp [List.getElem?_eq_getElem hi]
 simp [num,hi,hx,s1]
 refine hn _ ?_ ?_ ?_ ?_
 · simp
 · simp only [y8,G1,z1,F9,z6,s8,y9,G0,l9,B1,H1,H2,j7,p8,p9,l1,z7,q9,l3,F8,y7,q8,q7,D9,E1,a05,a06,Option.getD_some,Option.getD_none,C6,u6,o8,D6,o7,o0,D8,o2,D7,D5,D4,H6,x3,o5,D2,x1,o4,D1,C4,D3,x2,C9,n9,w9,D0,H8,H7,C5,C7,o3,C8,x4,o6,B4,n0,C3,C2,C1,H3,w7,n6,B9,w5,n5,B8,B2,C0,w6,B6,m8,v8,B7,H5,H4,B3,v7,n8,B5,w8,n7,J6,J5,K9,J7,K3,J9,J8,K8,K2,K4,K5,K6,K7,A1,A0,z8,M5,M6,A4,G2,u7,E5,x7,L3,t6,Q6,M9,M0,O1,O3,O2,Q7,Q8,I8,J0,I9,J1,J2,N8,x9,N7,E6,E7,E8,y0,a09,F5,y6,Q4,Q5,H9,M7,M8,Option.map_some,Option.map_none,E9,y4,x6,o9,E3,E4,I2,I1,O8,O7,J4,F6,F7,J3,O4,O5,I4,p6,I5,p5,N2,F4,F3,l2,O0,O6,I7,N4,N6,N5,x8,A8,B0,A9,k7,N9,R0,Q9,N0,I6,U8,N1,p7,F1,F2,y5,F0,l0,u9,k9,v6,k8,L2,O9,P0,A2,A3,G4,G3,E2,A4,s1,num]
   simp
   try omega
 · simp [num,si]
 · simp [hi,hx,hx']
   try simp [s1,b1e,num,tx]
theorem c40 (l:List Int) (k:Nat) (hk:k < 8388608) (hl:l.length≤1048576):a45 Tryz.prog 18 (.own 0) 3 1 (l.map num) [.val (num k)] (num ((k+1*l.length:Nat):Int)) ((mkL b1e 1 l.length k).map num):=by
 refine a4a mixed ok18 rfl ?_
 unfold ir18
 rw [b6]
 simp [d9,i6,j9,b9,d7,V6,PV.nm,num]
 refine j8 (X:=Nat) (fun i=>⟨u0 [(0,.own 900),(1,.val (num ((k+1*i:Nat):Int))),(5,.val (num i))],u5 [(900,.row 3 1 ((mkU b1e 1 l k i).map num))]⟩) (fun i=>i≤l.length) (fun i=>l.length - i) 0 (Le.mk _ _ ?_ ?_) (Nat.zero_le _) ?_
 · simp [upd,num,PV.kill]
 · simp [a6l]
 · intro i hi
   have hml:=a9d b1e 1 l k i hi
   by_cases h1:i < l.length
   · have hmi:i < (mkU b1e 1 l k i).length:=by omega
     have hset:=a9c b1e 1 l k i h1
     refine c7l ((mkU b1e 1 l k i).map num) (k+1*i) i (mkU b1e 1 l k i)[i] (by simpa using hmi) (by omega) (by simp;omega) (by simp [List.getElem?_eq_getElem hmi,num]) (fun st' q0 q1 q5 qm=>?_)
     simp
     refine LoopNext.mk (i+1) h1 (by omega) (Le.mk _ _ ?_ ?_)
     · simp [q0,q1,q5,num]
       omega
     · rw [← List.map_set,hset] at qm
       simp [qm]
   · have e:i=l.length:=by omega
     subst e
     unfold ir18_l6
     simp [num,hml,a9e,a1o]
theorem b2p (l:List LTarget) (hx:bdS 1048576 (U9 1048576) l):d8 Tryz.prog 226 [.val (.list 3 (l.map f9))] (.ret (.own 0) [⟨185,3,l.map f9⟩]) []:=by
 refine a7j (mk:=fun i=>.own i) mixed ok226 rfl (fun _=>rfl) ?_
 unfold ir226
 rw [b6]
 have hl:l.length≤1048576:=hx.1
 simp [d9,i6,j9,b9,d7,num,G6]
 refine ⟨by omega,by omega,?_⟩
 refine j8 (X:=Nat) (fun i=>⟨u0 [(0,.val (.list 3 (l.map f9))),(3,.own 7),(4,.val (num i))],u5 [(7,.row 185 3 (a3g f9 (.agg [.str (bs []),.int .i64 0,.int .i64 0]) l i))]⟩) (fun i=>i≤l.length) (fun i=>l.length - i) 0 (Le.mk _ _ ?_ ?_) ?_ ?_
 · simp [upd,num,PV.kill]
 · simp [upd,num,bs,a47]
 · simp
 · intro i hi
   have hlen:=a6h f9 (.agg [.str (bs []),.int .i64 0,.int .i64 0]) l i hi
   simp [num,G6]
   refine f7 (fun h1=>?_) (fun h1=>?_)
   · have e1:(l.map f9)[i]?.getD .nilptr=f9 l[i]:=by simp [List.getElem?_eq_getElem h1]
     have e2:=a86 f9 (.agg [.str (bs []),.int .i64 0,.int .i64 0]) l i h1
     have e3:=a6g f9 (.agg [.str (bs []),.int .i64 0,.int .i64 0]) l i h1
     have e4:(a3g f9 (.agg [.str (bs []),.int .i64 0,.int .i64 0]) l i)[i]'(by omega)=(.agg [.str (bs []),.int .i64 0,.int .i64 0]):=by
      have h9:=e2
      rw [List.getElem?_eq_getElem (show i < (a3g f9 (.agg [.str (bs []),.int .i64 0,.int .i64 0]) l i).length by omega)] at h9
      exact h9
     simp [num,h1,e1,f9,tx,hlen,G6]
     refine b7 rfl rfl (.inl rfl) (b54 l[i] (hx.2 _ (List.getElem_mem h1))) ?_
     simp [num,h1,e1,e2,f9,tx,hlen,G6]
     refine LoopNext.mk (i+1) (by omega) (by omega) (Le.mk _ _ ?_ ?_)
     · simp [num];exact wrap_i64 (by omega) (by omega)
     · rw [← e3]
       simp [f9,num,tx,e4]
   · have e1:i=l.length:=by omega
     subst e1
     simp [num,a6i,a1p,PV.pl]
theorem b9c {K:Kx (PExit→St→Prop)} (xs:List RV) (k i:Nat) (a0 a1 a2:RV) (hi:i < xs.length) (hk:k < 549755813888) (hl:xs.length < 1099511627776) (hx:xs[i]?.getD .nilptr=.agg [a0,a1,a2])
 (hn:∀ st':St,st'.env 0=.own 900→st'.env 1=.val (num ((k+3:Nat):Int))→st'.env 5=.val (num ((i+1:Nat):Int))→st'.mem 900=.row 185 3 (xs.set i (f9 (a1w k)))→K.k .normal st') :
 EC Tryz.prog ir79_l6 ⟨u0 [(0,.own 900),(1,.val (num k)),(5,.val (num i))],u5 [(900,.row 185 3 xs)]⟩ (K:=K):=by
 unfold ir79_l6
 have s1:IntKind.i64.wrap ((k:Int)+1)=(k:Int)+1:=wrap_i64 (by omega) (by omega)
 have hmk0:d8 Tryz.prog 83 [.val (.int .i64 ((k:Int)))] (.ret (.val (.str (bs (lmk (k+0))))) []) []:=by
  have h:=a0u (k+0) (by omega)
  exact h
 have s2:IntKind.i64.wrap ((k:Int)+1+1)=(k:Int)+1+1:=wrap_i64 (by omega) (by omega)
 have c1:((k+1:Nat):Int)=(k:Int)+1:=by omega
 have s3:IntKind.i64.wrap ((k:Int)+1+1+1)=(k:Int)+1+1+1:=wrap_i64 (by omega) (by omega)
 have c2:((k+2:Nat):Int)=(k:Int)+1+1:=by omega
 have si:IntKind.i64.wrap ((i:Int)+1)=(i:Int)+1:=wrap_i64 (by omega) (by omega)
 have hx':xs[i]=.agg [a0,a1,a2]:=by rw [← hx];simp [List.getElem?_eq_getElem hi]
 simp [num,hi]
 refine b7 rfl rfl (.inl rfl) hmk0 ?_
 simp [num,hi,hx,tx,s1,s2,s3]
 refine hn _ ?_ ?_ ?_ ?_
 · simp
 · simp only [y8,G1,z1,F9,z6,s8,y9,G0,l9,B1,H1,H2,j7,p8,p9,l1,z7,q9,l3,F8,y7,q8,q7,D9,E1,a05,a06,Option.getD_some,Option.getD_none,C6,u6,o8,D6,o7,o0,D8,o2,D7,D5,D4,H6,x3,o5,D2,x1,o4,D1,C4,D3,x2,C9,n9,w9,D0,H8,H7,C5,C7,o3,C8,x4,o6,B4,n0,C3,C2,C1,H3,w7,n6,B9,w5,n5,B8,B2,C0,w6,B6,m8,v8,B7,H5,H4,B3,v7,n8,B5,w8,n7,J6,J5,K9,J7,K3,J9,J8,K8,K2,K4,K5,K6,K7,A1,A0,z8,M5,M6,A4,G2,u7,E5,x7,L3,t6,Q6,M9,M0,O1,O3,O2,Q7,Q8,I8,J0,I9,J1,J2,N8,x9,N7,E6,E7,E8,y0,a09,F5,y6,Q4,Q5,H9,M7,M8,Option.map_some,Option.map_none,E9,y4,x6,o9,E3,E4,I2,I1,O8,O7,J4,F6,F7,J3,O4,O5,I4,p6,I5,p5,N2,F4,F3,l2,O0,O6,I7,N4,N6,N5,x8,A8,B0,A9,k7,N9,R0,Q9,N0,I6,U8,N1,p7,F1,F2,y5,F0,l0,u9,k9,v6,k8,L2,O9,P0,A2,A3,G4,G3,E2,A4,s1,s2,s3,num]
   simp
   try omega
 · simp [num,si]
 · simp [hi,hx,hx']
   try simp [s1,s2,s3,c1,c2,f9,a1w,num,tx]
theorem b7o (l:List LTarget) (k:Nat) (hk:k < 8388608) (hl:l.length≤1048576):a45 Tryz.prog 79 (.own 0) 185 3 (l.map f9) [.val (num k)] (num ((k+3*l.length:Nat):Int)) ((mkL a1w 3 l.length k).map f9):=by
 refine a4a mixed ok79 rfl ?_
 unfold ir79
 rw [b6]
 simp [d9,i6,j9,b9,d7,V6,PV.nm,num]
 refine j8 (X:=Nat) (fun i=>⟨u0 [(0,.own 900),(1,.val (num ((k+3*i:Nat):Int))),(5,.val (num i))],u5 [(900,.row 185 3 ((mkU a1w 3 l k i).map f9))]⟩) (fun i=>i≤l.length) (fun i=>l.length - i) 0 (Le.mk _ _ ?_ ?_) (Nat.zero_le _) ?_
 · simp [upd,num,PV.kill]
 · simp [a6l]
 · intro i hi
   have hml:=a9d a1w 3 l k i hi
   by_cases h1:i < l.length
   · have hmi:i < (mkU a1w 3 l k i).length:=by omega
     have hset:=a9c a1w 3 l k i h1
     refine b9c ((mkU a1w 3 l k i).map f9) (k+3*i) i (tx (mkU a1w 3 l k i)[i].url) (num (mkU a1w 3 l k i)[i].prio) (num (mkU a1w 3 l k i)[i].weight) (by simpa using hmi) (by omega) (by simp;omega) (by simp [List.getElem?_eq_getElem hmi,f9]) (fun st' q0 q1 q5 qm=>?_)
     simp
     refine LoopNext.mk (i+1) h1 (by omega) (Le.mk _ _ ?_ ?_)
     · simp [q0,q1,q5,num]
       omega
     · rw [← List.map_set,hset] at qm
       simp [qm]
   · have e:i=l.length:=by omega
     subst e
     unfold ir79_l6
     simp [num,hml,a9e,a1o]
theorem b55 (l:List LPeer) (hx:bdS 1048576 (a1n 1048576) l):d8 Tryz.prog 165 [.val (.list 6 (l.map A6))] (.ret (.own 0) [⟨194,6,l.map A6⟩]) []:=by
 refine a7j (mk:=fun i=>.own i) mixed ok165 rfl (fun _=>rfl) ?_
 unfold ir165
 rw [b6]
 have hl:l.length≤1048576:=hx.1
 simp [d9,i6,j9,b9,d7,num,G6]
 refine ⟨by omega,by omega,?_⟩
 refine j8 (X:=Nat) (fun i=>⟨u0 [(0,.val (.list 6 (l.map A6))),(3,.own 7),(4,.val (num i))],u5 [(7,.row 194 6 (a3g A6 (.agg [.str (bs []),.int .i64 0,.int .i64 0,.int .i64 0,.int .i64 0,.bool false]) l i))]⟩) (fun i=>i≤l.length) (fun i=>l.length - i) 0 (Le.mk _ _ ?_ ?_) ?_ ?_
 · simp [upd,num,PV.kill]
 · simp [upd,num,bs,a47]
 · simp
 · intro i hi
   have hlen:=a6h A6 (.agg [.str (bs []),.int .i64 0,.int .i64 0,.int .i64 0,.int .i64 0,.bool false]) l i hi
   simp [num,G6]
   refine f7 (fun h1=>?_) (fun h1=>?_)
   · have e1:(l.map A6)[i]?.getD .nilptr=A6 l[i]:=by simp [List.getElem?_eq_getElem h1]
     have e2:=a86 A6 (.agg [.str (bs []),.int .i64 0,.int .i64 0,.int .i64 0,.int .i64 0,.bool false]) l i h1
     have e3:=a6g A6 (.agg [.str (bs []),.int .i64 0,.int .i64 0,.int .i64 0,.int .i64 0,.bool false]) l i h1
     have e4:(a3g A6 (.agg [.str (bs []),.int .i64 0,.int .i64 0,.int .i64 0,.int .i64 0,.bool false]) l i)[i]'(by omega)=(.agg [.str (bs []),.int .i64 0,.int .i64 0,.int .i64 0,.int .i64 0,.bool false]):=by
      have h9:=e2
      rw [List.getElem?_eq_getElem (show i < (a3g A6 (.agg [.str (bs []),.int .i64 0,.int .i64 0,.int .i64 0,.int .i64 0,.bool false]) l i).length by omega)] at h9
      exact h9
     simp [num,h1,e1,f9,A6,tx,hlen,G6]
     refine b7 rfl rfl (.inl rfl) (d06 l[i] (hx.2 _ (List.getElem_mem h1))) ?_
     simp [num,h1,e1,e2,f9,A6,tx,hlen,G6]
     refine LoopNext.mk (i+1) (by omega) (by omega) (Le.mk _ _ ?_ ?_)
     · simp [num];exact wrap_i64 (by omega) (by omega)
     · rw [← e3]
       simp [f9,A6,num,tx,e4]
   · have e1:i=l.length:=by omega
     subst e1
     simp [num,a6i,a1p,PV.pl]
theorem c34 {K:Kx (PExit→St→Prop)} (xs:List RV) (k i:Nat) (a0 a1 a2 a3 a4 a5:RV) (hi:i < xs.length) (hk:k < 549755813888) (hl:xs.length < 1099511627776) (hx:xs[i]?.getD .nilptr=.agg [a0,a1,a2,a3,a4,a5])
 (hn:∀ st':St,st'.env 0=.own 900→st'.env 1=.val (num ((k+6:Nat):Int))→st'.env 5=.val (num ((i+1:Nat):Int))→st'.mem 900=.row 194 6 (xs.set i (A6 (a3h k)))→K.k .normal st') :
 EC Tryz.prog ir121_l6 ⟨u0 [(0,.own 900),(1,.val (num k)),(5,.val (num i))],u5 [(900,.row 194 6 xs)]⟩ (K:=K):=by
 unfold ir121_l6
 have s1:IntKind.i64.wrap ((k:Int)+1)=(k:Int)+1:=wrap_i64 (by omega) (by omega)
 have hmk0:d8 Tryz.prog 83 [.val (.int .i64 ((k:Int)))] (.ret (.val (.str (bs (lmk (k+0))))) []) []:=by
  have h:=a0u (k+0) (by omega)
  exact h
 have s2:IntKind.i64.wrap ((k:Int)+1+1)=(k:Int)+1+1:=wrap_i64 (by omega) (by omega)
 have c1:((k+1:Nat):Int)=(k:Int)+1:=by omega
 have s3:IntKind.i64.wrap ((k:Int)+1+1+1)=(k:Int)+1+1+1:=wrap_i64 (by omega) (by omega)
 have c2:((k+2:Nat):Int)=(k:Int)+1+1:=by omega
 have s4:IntKind.i64.wrap ((k:Int)+1+1+1+1)=(k:Int)+1+1+1+1:=wrap_i64 (by omega) (by omega)
 have c3:((k+3:Nat):Int)=(k:Int)+1+1+1:=by omega
 have s5:IntKind.i64.wrap ((k:Int)+1+1+1+1+1)=(k:Int)+1+1+1+1+1:=wrap_i64 (by omega) (by omega)
 have c4:((k+4:Nat):Int)=(k:Int)+1+1+1+1:=by omega
 have s6:IntKind.i64.wrap ((k:Int)+1+1+1+1+1+1)=(k:Int)+1+1+1+1+1+1:=wrap_i64 (by omega) (by omega)
 have c5:((k+5:Nat):Int)=(k:Int)+1+1+1+1+1:=by omega
 have hm5:(((k:Int)+1+1+1+1+1).tmod 3 == 0)=decide ((k+5) % 3=0):=by
  rw [Int.tmod_eq_emod_of_nonneg (by omega),Bool.eq_iff_iff]
  simp only [beq_iff_eq,decide_eq_true_eq]
  omega
 have si:IntKind.i64.wrap ((i:Int)+1)=(i:Int)+1:=wrap_i64 (by omega) (by omega)
 have hx':xs[i]=.agg [a0,a1,a2,a3,a4,a5]:=by rw [← hx];simp [List.getElem?_eq_getElem hi]
 simp [num,hi]
 refine b7 rfl rfl (.inl rfl) hmk0 ?_
 simp [num,hi,hx,tx,s1,s2,s3,s4,s5,s6]
 refine hn _ ?_ ?_ ?_ ?_
 · simp
 · simp only [y8,G1,z1,F9,z6,s8,y9,G0,l9,B1,H1,H2,j7,p8,p9,l1,z7,q9,l3,F8,y7,q8,q7,D9,E1,a05,a06,Option.getD_some,Option.getD_none,C6,u6,o8,D6,o7,o0,D8,o2,D7,D5,D4,H6,x3,o5,D2,x1,o4,D1,C4,D3,x2,C9,n9,w9,D0,H8,H7,C5,C7,o3,C8,x4,o6,B4,n0,C3,C2,C1,H3,w7,n6,B9,w5,n5,B8,B2,C0,w6,B6,m8,v8,B7,H5,H4,B3,v7,n8,B5,w8,n7,J6,J5,K9,J7,K3,J9,J8,K8,K2,K4,K5,K6,K7,A1,A0,z8,M5,M6,A4,G2,u7,E5,x7,L3,t6,Q6,M9,M0,O1,O3,O2,Q7,Q8,I8,J0,I9,J1,J2,N8,x9,N7,E6,E7,E8,y0,a09,F5,y6,Q4,Q5,H9,M7,M8,Option.map_some,Option.map_none,E9,y4,x6,o9,E3,E4,I2,I1,O8,O7,J4,F6,F7,J3,O4,O5,I4,p6,I5,p5,N2,F4,F3,l2,O0,O6,I7,N4,N6,N5,x8,A8,B0,A9,k7,N9,R0,Q9,N0,I6,U8,N1,p7,F1,F2,y5,F0,l0,u9,k9,v6,k8,L2,O9,P0,A2,A3,G4,G3,E2,A4,s1,s2,s3,s4,s5,s6,num]
   simp
   try omega
 · simp [num,si]
 · simp [hi,hx,hx']
   try simp [s1,s2,s3,s4,s5,s6,c1,c2,c3,c4,c5,hm5,f9,A6,a3h,num,tx]
theorem c12 (l:List LPeer) (k:Nat) (hk:k < 8388608) (hl:l.length≤1048576):a45 Tryz.prog 121 (.own 0) 194 6 (l.map A6) [.val (num k)] (num ((k+6*l.length:Nat):Int)) ((mkL a3h 6 l.length k).map A6):=by
 refine a4a mixed ok121 rfl ?_
 unfold ir121
 rw [b6]
 simp [d9,i6,j9,b9,d7,V6,PV.nm,num]
 refine j8 (X:=Nat) (fun i=>⟨u0 [(0,.own 900),(1,.val (num ((k+6*i:Nat):Int))),(5,.val (num i))],u5 [(900,.row 194 6 ((mkU a3h 6 l k i).map A6))]⟩) (fun i=>i≤l.length) (fun i=>l.length - i) 0 (Le.mk _ _ ?_ ?_) (Nat.zero_le _) ?_
 · simp [upd,num,PV.kill]
 · simp [a6l]
 · intro i hi
   have hml:=a9d a3h 6 l k i hi
   by_cases h1:i < l.length
   · have hmi:i < (mkU a3h 6 l k i).length:=by omega
     have hset:=a9c a3h 6 l k i h1
     refine c34 ((mkU a3h 6 l k i).map A6) (k+6*i) i (tx (mkU a3h 6 l k i)[i].target.url) (num (mkU a3h 6 l k i)[i].target.prio) (num (mkU a3h 6 l k i)[i].target.weight) (num (mkU a3h 6 l k i)[i].fails) (num (mkU a3h 6 l k i)[i].retry) (.bool (mkU a3h 6 l k i)[i].gone) (by simpa using hmi) (by omega) (by simp;omega) (by simp [List.getElem?_eq_getElem hmi,f9,A6]) (fun st' q0 q1 q5 qm=>?_)
     simp
     refine LoopNext.mk (i+1) h1 (by omega) (Le.mk _ _ ?_ ?_)
     · simp [q0,q1,q5,num]
       omega
     · rw [← List.map_set,hset] at qm
       simp [qm]
   · have e:i=l.length:=by omega
     subst e
     unfold ir121_l6
     simp [num,hml,a9e,a1o]
theorem b2r (l:List LReport) (hx:bdS 1048576 (X9 1048576) l):d8 Tryz.prog 228 [.val (.list 4 (l.map i8))] (.ret (.own 0) [⟨174,4,l.map i8⟩]) []:=by
 refine a7j (mk:=fun i=>.own i) mixed ok228 rfl (fun _=>rfl) ?_
 unfold ir228
 rw [b6]
 have hl:l.length≤1048576:=hx.1
 simp [d9,i6,j9,b9,d7,num,G6]
 refine ⟨by omega,by omega,?_⟩
 refine j8 (X:=Nat) (fun i=>⟨u0 [(0,.val (.list 4 (l.map i8))),(3,.own 7),(4,.val (num i))],u5 [(7,.row 174 4 (a3g i8 (.agg [.int .i64 0,.int .i64 0,.int .i64 0,.str (bs [])]) l i))]⟩) (fun i=>i≤l.length) (fun i=>l.length - i) 0 (Le.mk _ _ ?_ ?_) ?_ ?_
 · simp [upd,num,PV.kill]
 · simp [upd,num,bs,a47]
 · simp
 · intro i hi
   have hlen:=a6h i8 (.agg [.int .i64 0,.int .i64 0,.int .i64 0,.str (bs [])]) l i hi
   simp [num,G6]
   refine f7 (fun h1=>?_) (fun h1=>?_)
   · have e1:(l.map i8)[i]?.getD .nilptr=i8 l[i]:=by simp [List.getElem?_eq_getElem h1]
     have e2:=a86 i8 (.agg [.int .i64 0,.int .i64 0,.int .i64 0,.str (bs [])]) l i h1
     have e3:=a6g i8 (.agg [.int .i64 0,.int .i64 0,.int .i64 0,.str (bs [])]) l i h1
     have e4:(a3g i8 (.agg [.int .i64 0,.int .i64 0,.int .i64 0,.str (bs [])]) l i)[i]'(by omega)=(.agg [.int .i64 0,.int .i64 0,.int .i64 0,.str (bs [])]):=by
      have h9:=e2
      rw [List.getElem?_eq_getElem (show i < (a3g i8 (.agg [.int .i64 0,.int .i64 0,.int .i64 0,.str (bs [])]) l i).length by omega)] at h9
      exact h9
     simp [num,h1,e1,i8,tx,hlen,G6]
     refine b7 rfl rfl (.inl rfl) (c43 l[i] (hx.2 _ (List.getElem_mem h1))) ?_
     simp [num,h1,e1,e2,i8,tx,hlen,G6]
     refine LoopNext.mk (i+1) (by omega) (by omega) (Le.mk _ _ ?_ ?_)
     · simp [num];exact wrap_i64 (by omega) (by omega)
     · rw [← e3]
       simp [i8,num,tx,e4]
   · have e1:i=l.length:=by omega
     subst e1
     simp [num,a6i,a1p,PV.pl]
theorem b9d {K:Kx (PExit→St→Prop)} (xs:List RV) (k i:Nat) (a0 a1 a2 a3:RV) (hi:i < xs.length) (hk:k < 549755813888) (hl:xs.length < 1099511627776) (hx:xs[i]?.getD .nilptr=.agg [a0,a1,a2,a3])
 (hn:∀ st':St,st'.env 0=.own 900→st'.env 1=.val (num ((k+4:Nat):Int))→st'.env 5=.val (num ((i+1:Nat):Int))→st'.mem 900=.row 174 4 (xs.set i (i8 (a1g k)))→K.k .normal st') :
 EC Tryz.prog ir122_l6 ⟨u0 [(0,.own 900),(1,.val (num k)),(5,.val (num i))],u5 [(900,.row 174 4 xs)]⟩ (K:=K):=by
 unfold ir122_l6
 have s1:IntKind.i64.wrap ((k:Int)+1)=(k:Int)+1:=wrap_i64 (by omega) (by omega)
 have s2:IntKind.i64.wrap ((k:Int)+1+1)=(k:Int)+1+1:=wrap_i64 (by omega) (by omega)
 have c1:((k+1:Nat):Int)=(k:Int)+1:=by omega
 have s3:IntKind.i64.wrap ((k:Int)+1+1+1)=(k:Int)+1+1+1:=wrap_i64 (by omega) (by omega)
 have c2:((k+2:Nat):Int)=(k:Int)+1+1:=by omega
 have s4:IntKind.i64.wrap ((k:Int)+1+1+1+1)=(k:Int)+1+1+1+1:=wrap_i64 (by omega) (by omega)
 have c3:((k+3:Nat):Int)=(k:Int)+1+1+1:=by omega
 have hmk3:d8 Tryz.prog 83 [.val (.int .i64 ((k:Int)+1+1+1))] (.ret (.val (.str (bs (lmk (k+3))))) []) []:=by
  have h:=a0u (k+3) (by omega)
  unfold num tx at h
  rwa [c3] at h
 have si:IntKind.i64.wrap ((i:Int)+1)=(i:Int)+1:=wrap_i64 (by omega) (by omega)
 have hx':xs[i]=.agg [a0,a1,a2,a3]:=by rw [← hx];simp [List.getElem?_eq_getElem hi]
 simp [num,hi,hx,s1,s2,s3,s4]
 refine b7 rfl rfl (.inl rfl) hmk3 ?_
 simp [num,hi,hx,tx,s1,s2,s3,s4]
 refine hn _ ?_ ?_ ?_ ?_
 · simp
 · simp only [y8,G1,z1,F9,z6,s8,y9,G0,l9,B1,H1,H2,j7,p8,p9,l1,z7,q9,l3,F8,y7,q8,q7,D9,E1,a05,a06,Option.getD_some,Option.getD_none,C6,u6,o8,D6,o7,o0,D8,o2,D7,D5,D4,H6,x3,o5,D2,x1,o4,D1,C4,D3,x2,C9,n9,w9,D0,H8,H7,C5,C7,o3,C8,x4,o6,B4,n0,C3,C2,C1,H3,w7,n6,B9,w5,n5,B8,B2,C0,w6,B6,m8,v8,B7,H5,H4,B3,v7,n8,B5,w8,n7,J6,J5,K9,J7,K3,J9,J8,K8,K2,K4,K5,K6,K7,A1,A0,z8,M5,M6,A4,G2,u7,E5,x7,L3,t6,Q6,M9,M0,O1,O3,O2,Q7,Q8,I8,J0,I9,J1,J2,N8,x9,N7,E6,E7,E8,y0,a09,F5,y6,Q4,Q5,H9,M7,M8,Option.map_some,Option.map_none,E9,y4,x6,o9,E3,E4,I2,I1,O8,O7,J4,F6,F7,J3,O4,O5,I4,p6,I5,p5,N2,F4,F3,l2,O0,O6,I7,N4,N6,N5,x8,A8,B0,A9,k7,N9,R0,Q9,N0,I6,U8,N1,p7,F1,F2,y5,F0,l0,u9,k9,v6,k8,L2,O9,P0,A2,A3,G4,G3,E2,A4,s1,s2,s3,s4,num]
   simp
   try omega
 · simp [num,si]
 · simp [hi,hx,hx']
   try simp [s1,s2,s3,s4,c1,c2,c3,i8,a1g,num,tx]
theorem b7p (l:List LReport) (k:Nat) (hk:k < 8388608) (hl:l.length≤1048576):a45 Tryz.prog 122 (.own 0) 174 4 (l.map i8) [.val (num k)] (num ((k+4*l.length:Nat):Int)) ((mkL a1g 4 l.length k).map i8):=by
 refine a4a mixed ok122 rfl ?_
 unfold ir122
 rw [b6]
 simp [d9,i6,j9,b9,d7,V6,PV.nm,num]
 refine j8 (X:=Nat) (fun i=>⟨u0 [(0,.own 900),(1,.val (num ((k+4*i:Nat):Int))),(5,.val (num i))],u5 [(900,.row 174 4 ((mkU a1g 4 l k i).map i8))]⟩) (fun i=>i≤l.length) (fun i=>l.length - i) 0 (Le.mk _ _ ?_ ?_) (Nat.zero_le _) ?_
 · simp [upd,num,PV.kill]
 · simp [a6l]
 · intro i hi
   have hml:=a9d a1g 4 l k i hi
   by_cases h1:i < l.length
   · have hmi:i < (mkU a1g 4 l k i).length:=by omega
     have hset:=a9c a1g 4 l k i h1
     refine b9d ((mkU a1g 4 l k i).map i8) (k+4*i) i (num (mkU a1g 4 l k i)[i].id) (num (mkU a1g 4 l k i)[i].born) (num (mkU a1g 4 l k i)[i].tries) (tx (mkU a1g 4 l k i)[i].body) (by simpa using hmi) (by omega) (by simp;omega) (by simp [List.getElem?_eq_getElem hmi,i8]) (fun st' q0 q1 q5 qm=>?_)
     simp
     refine LoopNext.mk (i+1) h1 (by omega) (Le.mk _ _ ?_ ?_)
     · simp [q0,q1,q5,num]
       omega
     · rw [← List.map_set,hset] at qm
       simp [qm]
   · have e:i=l.length:=by omega
     subst e
     unfold ir122_l6
     simp [num,hml,a9e,a1o]
theorem b35 (l:List LEntry) (hx:l.length≤1048576):d8 Tryz.prog 52 [.val (.list 3 (l.map G5))] (.ret (.own 0) [⟨157,3,l.map G5⟩]) []:=by
 refine a7j (mk:=fun i=>.own i) mixed ok52 rfl (fun _=>rfl) ?_
 unfold ir52
 rw [b6]
 have hl:l.length≤1048576:=hx
 simp [d9,i6,j9,b9,d7,num,G6]
 refine ⟨by omega,by omega,?_⟩
 refine j8 (X:=Nat) (fun i=>⟨u0 [(0,.val (.list 3 (l.map G5))),(3,.own 7),(4,.val (num i))],u5 [(7,.row 157 3 (a3g G5 (.agg [.int .i64 0,.int .i64 0,.int .i64 0]) l i))]⟩) (fun i=>i≤l.length) (fun i=>l.length - i) 0 (Le.mk _ _ ?_ ?_) ?_ ?_
 · simp [upd,num,PV.kill]
 · simp [upd,num,bs,a47]
 · simp
 · intro i hi
   have hlen:=a6h G5 (.agg [.int .i64 0,.int .i64 0,.int .i64 0]) l i hi
   simp [num,G6]
   refine f7 (fun h1=>?_) (fun h1=>?_)
   · have e1:(l.map G5)[i]?.getD .nilptr=G5 l[i]:=by simp [List.getElem?_eq_getElem h1]
     have e2:=a86 G5 (.agg [.int .i64 0,.int .i64 0,.int .i64 0]) l i h1
     have e3:=a6g G5 (.agg [.int .i64 0,.int .i64 0,.int .i64 0]) l i h1
     have e4:(a3g G5 (.agg [.int .i64 0,.int .i64 0,.int .i64 0]) l i)[i]'(by omega)=(.agg [.int .i64 0,.int .i64 0,.int .i64 0]):=by
      have h9:=e2
      rw [List.getElem?_eq_getElem (show i < (a3g G5 (.agg [.int .i64 0,.int .i64 0,.int .i64 0]) l i).length by omega)] at h9
      exact h9
     simp [num,h1,e1,G5,tx,hlen,G6]
     refine b7 rfl rfl (.inl rfl) (c8f l[i] trivial) ?_
     simp [num,h1,e1,e2,G5,tx,hlen,G6]
     refine LoopNext.mk (i+1) (by omega) (by omega) (Le.mk _ _ ?_ ?_)
     · simp [num];exact wrap_i64 (by omega) (by omega)
     · rw [← e3]
       simp [G5,num,tx,e4]
   · have e1:i=l.length:=by omega
     subst e1
     simp [num,a6i,a1p,PV.pl]
theorem c1a {K:Kx (PExit→St→Prop)} (xs:List RV) (k i:Nat) (a0 a1 a2:RV) (hi:i < xs.length) (hk:k < 549755813888) (hl:xs.length < 1099511627776) (hx:xs[i]?.getD .nilptr=.agg [a0,a1,a2])
 (hn:∀ st':St,st'.env 0=.own 900→st'.env 1=.val (num ((k+3:Nat):Int))→st'.env 5=.val (num ((i+1:Nat):Int))→st'.mem 900=.row 157 3 (xs.set i (G5 (a3i k)))→K.k .normal st') :
 EC Tryz.prog ir64_l6 ⟨u0 [(0,.own 900),(1,.val (num k)),(5,.val (num i))],u5 [(900,.row 157 3 xs)]⟩ (K:=K):=by
 unfold ir64_l6
 have s1:IntKind.i64.wrap ((k:Int)+1)=(k:Int)+1:=wrap_i64 (by omega) (by omega)
 have s2:IntKind.i64.wrap ((k:Int)+1+1)=(k:Int)+1+1:=wrap_i64 (by omega) (by omega)
 have c1:((k+1:Nat):Int)=(k:Int)+1:=by omega
 have s3:IntKind.i64.wrap ((k:Int)+1+1+1)=(k:Int)+1+1+1:=wrap_i64 (by omega) (by omega)
 have c2:((k+2:Nat):Int)=(k:Int)+1+1:=by omega
 have si:IntKind.i64.wrap ((i:Int)+1)=(i:Int)+1:=wrap_i64 (by omega) (by omega)
 have hx':xs[i]=.agg [a0,a1,a2]:=by rw [← hx];simp [List.getElem?_eq_getElem hi]
 simp [num,hi,hx,s1,s2,s3]
 refine hn _ ?_ ?_ ?_ ?_
 · simp
 · simp only [y8,G1,z1,F9,z6,s8,y9,G0,l9,B1,H1,H2,j7,p8,p9,l1,z7,q9,l3,F8,y7,q8,q7,D9,E1,a05,a06,Option.getD_some,Option.getD_none,C6,u6,o8,D6,o7,o0,D8,o2,D7,D5,D4,H6,x3,o5,D2,x1,o4,D1,C4,D3,x2,C9,n9,w9,D0,H8,H7,C5,C7,o3,C8,x4,o6,B4,n0,C3,C2,C1,H3,w7,n6,B9,w5,n5,B8,B2,C0,w6,B6,m8,v8,B7,H5,H4,B3,v7,n8,B5,w8,n7,J6,J5,K9,J7,K3,J9,J8,K8,K2,K4,K5,K6,K7,A1,A0,z8,M5,M6,A4,G2,u7,E5,x7,L3,t6,Q6,M9,M0,O1,O3,O2,Q7,Q8,I8,J0,I9,J1,J2,N8,x9,N7,E6,E7,E8,y0,a09,F5,y6,Q4,Q5,H9,M7,M8,Option.map_some,Option.map_none,E9,y4,x6,o9,E3,E4,I2,I1,O8,O7,J4,F6,F7,J3,O4,O5,I4,p6,I5,p5,N2,F4,F3,l2,O0,O6,I7,N4,N6,N5,x8,A8,B0,A9,k7,N9,R0,Q9,N0,I6,U8,N1,p7,F1,F2,y5,F0,l0,u9,k9,v6,k8,L2,O9,P0,A2,A3,G4,G3,E2,A4,s1,s2,s3,num]
   simp
   try omega
 · simp [num,si]
 · simp [hi,hx,hx']
   try simp [s1,s2,s3,c1,c2,G5,a3i,num,tx]
theorem b9y (l:List LEntry) (k:Nat) (hk:k < 8388608) (hl:l.length≤1048576):a45 Tryz.prog 64 (.own 0) 157 3 (l.map G5) [.val (num k)] (num ((k+3*l.length:Nat):Int)) ((mkL a3i 3 l.length k).map G5):=by
 refine a4a mixed ok64 rfl ?_
 unfold ir64
 rw [b6]
 simp [d9,i6,j9,b9,d7,V6,PV.nm,num]
 refine j8 (X:=Nat) (fun i=>⟨u0 [(0,.own 900),(1,.val (num ((k+3*i:Nat):Int))),(5,.val (num i))],u5 [(900,.row 157 3 ((mkU a3i 3 l k i).map G5))]⟩) (fun i=>i≤l.length) (fun i=>l.length - i) 0 (Le.mk _ _ ?_ ?_) (Nat.zero_le _) ?_
 · simp [upd,num,PV.kill]
 · simp [a6l]
 · intro i hi
   have hml:=a9d a3i 3 l k i hi
   by_cases h1:i < l.length
   · have hmi:i < (mkU a3i 3 l k i).length:=by omega
     have hset:=a9c a3i 3 l k i h1
     refine c1a ((mkU a3i 3 l k i).map G5) (k+3*i) i (num (mkU a3i 3 l k i)[i].kind) (num (mkU a3i 3 l k i)[i].id) (num (mkU a3i 3 l k i)[i].at_) (by simpa using hmi) (by omega) (by simp;omega) (by simp [List.getElem?_eq_getElem hmi,G5]) (fun st' q0 q1 q5 qm=>?_)
     simp
     refine LoopNext.mk (i+1) h1 (by omega) (Le.mk _ _ ?_ ?_)
     · simp [q0,q1,q5,num]
       omega
     · rw [← List.map_set,hset] at qm
       simp [qm]
   · have e:i=l.length:=by omega
     subst e
     unfold ir64_l6
     simp [num,hml,a9e,a1o]
end Go.Proofs
end
section
namespace Go.Proofs
open Go.PW Go.KP
attribute [local simp] RV.cells RV.one PV.cells PV.solid PV.one G6 i7 M3 L4 RV.ofCells elems PV.killL
variable [GF]
theorem b7q (n k:Nat) (hk:k < 8388608) (hl:n≤1048576):d8 Tryz.prog 33 [.val (.list 1 ((mkL lmk 1 n k).map tx)),.val (num k)] (.ret (.val (num ((k+1*n:Nat):Int))) []) []:=by
 refine f8 mixed ok33 rfl (fun _=>rfl) ?_
 unfold ir33
 rw [b6]
 have hlen:=a1o lmk 1 n k
 simp [d9,i6,j9,b9,d7,num]
 refine j8 (X:=Nat) (fun i=>⟨u0 [(0,.val (.list 1 ((mkL lmk 1 n k).map tx))),(1,.val (num ((k+1*i:Nat):Int))),(5,.val (num i))],u5 []⟩) (fun i=>i≤n) (fun i=>n - i) 0 (Le.mk _ _ ?_ ?_) (Nat.zero_le _) ?_
 · simp [upd,num,PV.kill]
 · simp
 · intro i hi
   unfold ir33_l6
   by_cases h1:i < n
   · have hi':i < (mkL lmk 1 n k).length:=by omega
     have hat:(mkL lmk 1 n k)[i]=lmk (k+1*i):=mkL_at h1
     have e1:((mkL lmk 1 n k).map tx)[i]?.getD .nilptr=tx (lmk (k+1*i)):=by simp [List.getElem?_eq_getElem hi',hat]
     generalize hj:k+1*i=j at *
     have hjj:j < 1099511627776:=by omega
     have s1:IntKind.i64.wrap ((j:Int)+1)=((j+1:Nat):Int):=by rw [wrap_i64 (by omega) (by omega)];omega
     have si:IntKind.i64.wrap ((i:Int)+1)=((i+1:Nat):Int):=by rw [wrap_i64 (by omega) (by omega)];omega
     have hmk0:d8 Tryz.prog 83 [.val (.int .i64 ((j+0:Nat):Int))] (.ret (.val (.str (bs (lmk (j+0))))) []) []:=a0u (j+0) (by omega)
     simp [num,a1o,h1,e1,hat,tx,s1,si]
     refine l6 rfl rfl (.inl rfl) hmk0 ?_
     simp [num,a1o,h1,e1,hat,tx,s1,si]
     refine LoopNext.mk (i+1) h1 (by omega) (Le.mk _ _ ?_ ?_)
     · simp [num,s1,si]
       omega
     · simp
   · have e:i=n:=by omega
     subst e
     simp [num,a1o]
end Go.Proofs
end
