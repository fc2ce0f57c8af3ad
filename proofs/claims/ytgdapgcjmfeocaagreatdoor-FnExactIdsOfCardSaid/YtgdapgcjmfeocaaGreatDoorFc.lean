/- Fc: merged out of KXm, KXa, KXh. -/
import Derived.Test.YtgdapgcjmfeocaaGreatDoorPWw
import Derived.Test.YtgdapgcjmfeocaaGreatDoorCa
import Derived.Test.YtgdapgcjmfeocaaGreatDoorAc
import Derived.Test.YtgdapgcjmfeocaaGreatDoorBa
import Derived.Test.YtgdapgcjmfeocaaGreatDoorCc
import Derived.Test.YtgdapgcjmfeocaaGreatDoorPWae
set_option linter.unusedSectionVars false
set_option linter.unusedSimpArgs false
set_option linter.unusedVariables false
set_option maxRecDepth 100000
section
namespace Go.Proofs
open Go.PW Go.KP
attribute [local simp] RV.cells RV.one PV.cells PV.solid PV.one G4 i7 L9 L6 RV.ofCells elems PV.killL
variable [GF]
theorem a04 (k:Nat) (hk:k < 1099511627776):d8 Tryz.prog 94 [.val (num k)] (.ret (.val (tx (lmk k))) []) []:=by
 refine f7 mixed ok94 rfl (fun _=>rfl) ?_
 unfold ir94
 rw [b6]
 unfold lmk
 by_cases h0:k=0
 · subst h0
   simp [d9,i6,j8,b8,d7,num,tx,bs]
 · have h0':¬ (k:Int)≤0:=by omega
   rw [if_neg h0]
   simp [d9,i6,j8,b8,d7,num,h0',h0]
   refine j9 (X:=Nat×Tx) (fun x=>⟨t6 [(0,.val (num x.1)),(3,.val (tx x.2))],u1 []⟩) (fun x=>x.1≤k∧x.2.length+x.1≤k∧b6n x.1 x.2=b6n k []) (fun x=>x.1) (k,[]) (Le.mk _ _ ?_ ?_) ⟨Nat.le_refl _,by simp,rfl⟩ ?_
   · simp [upd,num,tx,bs]
   · simp
   · rintro ⟨m,out⟩ ⟨hm,hlen,hF⟩
     simp only at hm hlen hF
     by_cases hz:m=0
     · subst hz
       rw [c64] at hF
       subst hF
       have hlk:1+(b6n k []).length≤9223372036854775807:=by omega
       simp [num,tx,bs_mk,L4,b9,hlk]
     · have hp:(0:Int) < (m:Int):=by omega
       have hp2:0 < m:=by omega
       rw [c93 hz] at hF
       have g6:(m:Int).tdiv 10=((m / 10:Nat):Int):=by rw [Int.tdiv_eq_ediv_of_nonneg (by omega)];omega
       have g7:(m:Int).tmod 10=((m % 10:Nat):Int):=by rw [Int.tmod_eq_emod_of_nonneg (by omega)];omega
       have ha:m / 10 < m:=Nat.div_lt_self (by omega) (by omega)
       have hb:m % 10 < 10:=Nat.mod_lt _ (by omega)
       have hl10:(UInt8.ofNat (48+m % 10) :: out).length+m / 10≤k:=by simp only [List.length_cons];omega
       have g8:IntKind.i64.wrap ((m / 10:Nat):Int)=((m / 10:Nat):Int):=wrap_i64 (by omega) (by omega)
       have g4:IntKind.i64.wrap (48+((m % 10:Nat):Int))=48+((m % 10:Nat):Int):=wrap_i64 (by omega) (by omega)
       have g5:IntKind.u8.wrap (48+((m % 10:Nat):Int))=48+((m % 10:Nat):Int):=b3o (by omega) (by omega)
       have g9:=d1i (m % 10)
       generalize m / 10=a at *
       generalize m % 10=b at *
       have hsz:1+out.length≤9223372036854775807:=by simp only [List.length_cons] at hl10;omega
       simp [d9,i6,j8,b8,d7,num,tx,hp,hp2,hz,g6,g7,g8,g4,g5,RV.isU8,g9,b9,L4]
       refine ⟨hsz,LoopNext.mk (a,UInt8.ofNat (48+b) :: out) ⟨by omega,hl10,hF⟩ ha (Le.mk _ _ ?_ ?_)⟩
       · simp [num,tx]
       · simp
end Go.Proofs
end
section
namespace Go.Proofs
open Go.PW Go.KP
attribute [local simp] RV.cells RV.one PV.cells PV.solid PV.one G4 i7 L9 L6 RV.ofCells elems PV.killL
variable [GF]
theorem b18 (l:List Tx) (hx:bdS 1048576 (fun t=>t.length≤1048576) l):d8 Tryz.prog 76 [.val (.list 1 (l.map tx))] (.ret (.own 0) [⟨9,1,l.map tx⟩]) []:=by
 refine a65 (mk:=fun i=>.own i) mixed ok76 rfl (fun _=>rfl) ?_
 unfold ir76
 rw [b6]
 have hl:l.length≤1048576:=hx.1
 simp [d9,i6,j8,b8,d7,num,G4]
 refine ⟨by omega,by omega,?_⟩
 refine j9 (X:=Nat) (fun i=>⟨t6 [(0,.val (.list 1 (l.map tx))),(3,.own 7),(4,.val (num i))],u1 [(7,.row 9 1 (a23 tx (.str (bs [])) l i))]⟩) (fun i=>i≤l.length) (fun i=>l.length - i) 0 (Le.mk _ _ ?_ ?_) ?_ ?_
 · simp [upd,num,PV.kill]
 · simp [upd,num,bs,a4x]
 · simp
 · intro i hi
   have hlen:=a56 tx (.str (bs [])) l i hi
   simp [num,G4]
   refine f8 (fun h1=>?_) (fun h1=>?_)
   · have e1:(l.map tx)[i]?.getD .nilptr=tx l[i]:=by simp [List.getElem?_eq_getElem h1]
     have e2:=a8q tx (.str (bs [])) l i h1
     have e3:=a55 tx (.str (bs [])) l i h1
     have e4:(a23 tx (.str (bs [])) l i)[i]'(by omega)=(.str (bs [])):=by
      have h9:=e2
      rw [List.getElem?_eq_getElem (show i < (a23 tx (.str (bs [])) l i).length by omega)] at h9
      exact h9
     simp [num,h1,e1,tx,hlen,G4]
     refine LoopNext.mk (i+1) (by omega) (by omega) (Le.mk _ _ ?_ ?_)
     · simp [num];exact wrap_i64 (by omega) (by omega)
     · rw [← e3]
       simp [num,tx,e4]
   · have e1:i=l.length:=by omega
     subst e1
     simp [num,a57,a1e,PV.pl]
theorem c6y {K:Kx (PExit→St→Prop)} (xs:List RV) (k i:Nat) (a0:ByteArray) (hi:i < xs.length) (hk:k < 549755813888) (hl:xs.length < 1099511627776) (hx:xs[i]?.getD .nilptr=.str a0)
 (hn:∀ st':St,st'.env 0=.own 900→st'.env 1=.val (num ((k+1:Nat):Int))→st'.env 5=.val (num ((i+1:Nat):Int))→st'.mem 900=.row 9 1 (xs.set i (tx (lmk k)))→K.k .normal st') :
 EC Tryz.prog ir98_l6 ⟨t6 [(0,.own 900),(1,.val (num k)),(5,.val (num i))],u1 [(900,.row 9 1 xs)]⟩ (K:=K):=by
 unfold ir98_l6
 have s1:IntKind.i64.wrap ((k:Int)+1)=(k:Int)+1:=wrap_i64 (by omega) (by omega)
 have hmk0:d8 Tryz.prog 94 [.val (.int .i64 ((k:Int)))] (.ret (.val (.str (bs (lmk (k+0))))) []) []:=by
  have h:=a04 (k+0) (by omega)
  exact h
 have si:IntKind.i64.wrap ((i:Int)+1)=(i:Int)+1:=wrap_i64 (by omega) (by omega)
 have hx':xs[i]=.str a0:=by rw [← hx];simp [List.getElem?_eq_getElem hi]
 simp [num,hi]
 refine b7 rfl rfl (.inl rfl) hmk0 ?_
 simp [num,hi,hx,tx,s1]
 refine hn _ ?_ ?_ ?_ ?_
 · simp
 · simp only [y0,F7,y5,F5,y6,q7,y4,F6,l7,A7,G8,G9,j6,p5,p6,l1,y7,p9,l3,F4,x9,p8,p7,D5,D6,a0v,a0w,Option.getD_some,Option.getD_none,C2,t8,o5,D2,o4,n8,D4,n9,D3,D1,D0,H3,w6,o2,C8,v8,o1,C7,C0,C9,w5,C5,n7,v7,C6,H5,H4,C1,C3,o0,C4,w7,o3,B0,l9,B9,B8,B7,H0,u9,n0,B5,u6,m8,B4,A8,B6,u7,B2,l8,u5,B3,H2,H1,A9,u4,n6,B1,v6,n5,J3,J2,K6,J4,J8,J6,J5,K5,J7,J9,K2,K3,K4,z1,y9,y8,M1,M2,z8,F8,u0,E1,x2,K8,q8,Q2,M5,L7,N7,N9,N8,Q3,Q4,I5,I7,I6,I8,I9,N4,x4,N3,E2,E3,E4,x5,a0y,F1,x8,Q0,Q1,H6,M3,M4,Option.map_some,Option.map_none,E5,x6,w9,o6,D8,D9,H9,H8,O4,O3,J1,F2,F3,J0,O0,O1,I1,o8,I2,o7,M8,F0,E9,l2,N6,O2,I4,N0,N2,N1,x3,A4,A6,A5,k7,N5,Q6,Q5,M6,I3,U4,M7,o9,E7,E8,x7,E6,l0,u2,k9,u3,k8,K7,O5,O6,z6,z7,G0,F9,D7,z8,s1,num]
   simp
   try omega
 · simp [num,si]
 · simp [hi,hx,hx']
   try simp [s1,num,tx]
theorem a5y (l:List Tx) (k:Nat) (hk:k < 8388608) (hl:l.length≤1048576):a4w Tryz.prog 98 (.own 0) 9 1 (l.map tx) [.val (num k)] (num ((k+1*l.length:Nat):Int)) ((mkL lmk 1 l.length k).map tx):=by
 refine a3z mixed ok98 rfl ?_
 unfold ir98
 rw [b6]
 simp [d9,i6,j8,b8,d7,V2,PV.nm,num]
 refine j9 (X:=Nat) (fun i=>⟨t6 [(0,.own 900),(1,.val (num ((k+1*i:Nat):Int))),(5,.val (num i))],u1 [(900,.row 9 1 ((mkU lmk 1 l k i).map tx))]⟩) (fun i=>i≤l.length) (fun i=>l.length - i) 0 (Le.mk _ _ ?_ ?_) (Nat.zero_le _) ?_
 · simp [upd,num,PV.kill]
 · simp [a6b]
 · intro i hi
   have hml:=a8x lmk 1 l k i hi
   by_cases h1:i < l.length
   · have hmi:i < (mkU lmk 1 l k i).length:=by omega
     have hset:=a8w lmk 1 l k i h1
     refine c6y ((mkU lmk 1 l k i).map tx) (k+1*i) i (bs (mkU lmk 1 l k i)[i]) (by simpa using hmi) (by omega) (by simp;omega) (by simp [List.getElem?_eq_getElem hmi,tx]) (fun st' q0 q1 q5 qm=>?_)
     simp
     refine LoopNext.mk (i+1) h1 (by omega) (Le.mk _ _ ?_ ?_)
     · simp [q0,q1,q5,num]
       omega
     · rw [← List.map_set,hset] at qm
       simp [qm]
   · have e:i=l.length:=by omega
     subst e
     unfold ir98_l6
     simp [num,hml,a8y,a1x]
theorem b6x (l:List Int) (hx:l.length≤1048576):d8 Tryz.prog 120 [.val (.list 1 (l.map num))] (.ret (.own 0) [⟨3,1,l.map num⟩]) []:=by
 refine a65 (mk:=fun i=>.own i) mixed ok120 rfl (fun _=>rfl) ?_
 unfold ir120
 rw [b6]
 have hl:l.length≤1048576:=hx
 simp [d9,i6,j8,b8,d7,num,G4]
 refine ⟨by omega,by omega,?_⟩
 refine j9 (X:=Nat) (fun i=>⟨t6 [(0,.val (.list 1 (l.map num))),(3,.own 7),(4,.val (num i))],u1 [(7,.row 3 1 (a23 num (.int .i64 0) l i))]⟩) (fun i=>i≤l.length) (fun i=>l.length - i) 0 (Le.mk _ _ ?_ ?_) ?_ ?_
 · simp [upd,num,PV.kill]
 · simp [upd,num,bs,a4x]
 · simp
 · intro i hi
   have hlen:=a56 num (.int .i64 0) l i hi
   simp [num,G4]
   refine f8 (fun h1=>?_) (fun h1=>?_)
   · have e1:(l.map num)[i]?.getD .nilptr=num l[i]:=by simp [List.getElem?_eq_getElem h1]
     have e2:=a8q num (.int .i64 0) l i h1
     have e3:=a55 num (.int .i64 0) l i h1
     have e4:(a23 num (.int .i64 0) l i)[i]'(by omega)=(.int .i64 0):=by
      have h9:=e2
      rw [List.getElem?_eq_getElem (show i < (a23 num (.int .i64 0) l i).length by omega)] at h9
      exact h9
     simp [num,h1,e1,tx,hlen,G4]
     refine LoopNext.mk (i+1) (by omega) (by omega) (Le.mk _ _ ?_ ?_)
     · simp [num];exact wrap_i64 (by omega) (by omega)
     · rw [← e3]
       simp [num,tx,e4]
   · have e1:i=l.length:=by omega
     subst e1
     simp [num,a57,a1e,PV.pl]
theorem c6z {K:Kx (PExit→St→Prop)} (xs:List RV) (k i:Nat) (a0:Int) (hi:i < xs.length) (hk:k < 549755813888) (hl:xs.length < 1099511627776) (hx:xs[i]?.getD .nilptr=.int .i64 a0)
 (hn:∀ st':St,st'.env 0=.own 900→st'.env 1=.val (num ((k+1:Nat):Int))→st'.env 5=.val (num ((i+1:Nat):Int))→st'.mem 900=.row 3 1 (xs.set i (num (a26 k)))→K.k .normal st') :
 EC Tryz.prog ir25_l6 ⟨t6 [(0,.own 900),(1,.val (num k)),(5,.val (num i))],u1 [(900,.row 3 1 xs)]⟩ (K:=K):=by
 unfold ir25_l6
 have s1:IntKind.i64.wrap ((k:Int)+1)=(k:Int)+1:=wrap_i64 (by omega) (by omega)
 have si:IntKind.i64.wrap ((i:Int)+1)=(i:Int)+1:=wrap_i64 (by omega) (by omega)
 have hx':xs[i]=.int .i64 a0:=by rw [← hx];simp [List.getElem?_eq_getElem hi]
 simp [num,hi,hx,s1]
 refine hn _ ?_ ?_ ?_ ?_
 · simp
 · simp only [y0,F7,y5,F5,y6,q7,y4,F6,l7,A7,G8,G9,j6,p5,p6,l1,y7,p9,l3,F4,x9,p8,p7,D5,D6,a0v,a0w,Option.getD_some,Option.getD_none,C2,t8,o5,D2,o4,n8,D4,n9,D3,D1,D0,H3,w6,o2,C8,v8,o1,C7,C0,C9,w5,C5,n7,v7,C6,H5,H4,C1,C3,o0,C4,w7,o3,B0,l9,B9,B8,B7,H0,u9,n0,B5,u6,m8,B4,A8,B6,u7,B2,l8,u5,B3,H2,H1,A9,u4,n6,B1,v6,n5,J3,J2,K6,J4,J8,J6,J5,K5,J7,J9,K2,K3,K4,z1,y9,y8,M1,M2,z8,F8,u0,E1,x2,K8,q8,Q2,M5,L7,N7,N9,N8,Q3,Q4,I5,I7,I6,I8,I9,N4,x4,N3,E2,E3,E4,x5,a0y,F1,x8,Q0,Q1,H6,M3,M4,Option.map_some,Option.map_none,E5,x6,w9,o6,D8,D9,H9,H8,O4,O3,J1,F2,F3,J0,O0,O1,I1,o8,I2,o7,M8,F0,E9,l2,N6,O2,I4,N0,N2,N1,x3,A4,A6,A5,k7,N5,Q6,Q5,M6,I3,U4,M7,o9,E7,E8,x7,E6,l0,u2,k9,u3,k8,K7,O5,O6,z6,z7,G0,F9,D7,z8,s1,num]
   simp
   try omega
 · simp [num,si]
 · simp [hi,hx,hx']
   try simp [s1,a26,num,tx]
theorem b49 (l:List Int) (k:Nat) (hk:k < 8388608) (hl:l.length≤1048576):a4w Tryz.prog 25 (.own 0) 3 1 (l.map num) [.val (num k)] (num ((k+1*l.length:Nat):Int)) ((mkL a26 1 l.length k).map num):=by
 refine a3z mixed ok25 rfl ?_
 unfold ir25
 rw [b6]
 simp [d9,i6,j8,b8,d7,V2,PV.nm,num]
 refine j9 (X:=Nat) (fun i=>⟨t6 [(0,.own 900),(1,.val (num ((k+1*i:Nat):Int))),(5,.val (num i))],u1 [(900,.row 3 1 ((mkU a26 1 l k i).map num))]⟩) (fun i=>i≤l.length) (fun i=>l.length - i) 0 (Le.mk _ _ ?_ ?_) (Nat.zero_le _) ?_
 · simp [upd,num,PV.kill]
 · simp [a6b]
 · intro i hi
   have hml:=a8x a26 1 l k i hi
   by_cases h1:i < l.length
   · have hmi:i < (mkU a26 1 l k i).length:=by omega
     have hset:=a8w a26 1 l k i h1
     refine c6z ((mkU a26 1 l k i).map num) (k+1*i) i (mkU a26 1 l k i)[i] (by simpa using hmi) (by omega) (by simp;omega) (by simp [List.getElem?_eq_getElem hmi,num]) (fun st' q0 q1 q5 qm=>?_)
     simp
     refine LoopNext.mk (i+1) h1 (by omega) (Le.mk _ _ ?_ ?_)
     · simp [q0,q1,q5,num]
       omega
     · rw [← List.map_set,hset] at qm
       simp [qm]
   · have e:i=l.length:=by omega
     subst e
     unfold ir25_l6
     simp [num,hml,a8y,a1x]
theorem b17 (l:List LTarget) (hx:bdS 1048576 (U5 1048576) l):d8 Tryz.prog 155 [.val (.list 3 (l.map f9))] (.ret (.own 0) [⟨162,3,l.map f9⟩]) []:=by
 refine a65 (mk:=fun i=>.own i) mixed ok155 rfl (fun _=>rfl) ?_
 unfold ir155
 rw [b6]
 have hl:l.length≤1048576:=hx.1
 simp [d9,i6,j8,b8,d7,num,G4]
 refine ⟨by omega,by omega,?_⟩
 refine j9 (X:=Nat) (fun i=>⟨t6 [(0,.val (.list 3 (l.map f9))),(3,.own 7),(4,.val (num i))],u1 [(7,.row 162 3 (a23 f9 (.agg [.str (bs []),.int .i64 0,.int .i64 0]) l i))]⟩) (fun i=>i≤l.length) (fun i=>l.length - i) 0 (Le.mk _ _ ?_ ?_) ?_ ?_
 · simp [upd,num,PV.kill]
 · simp [upd,num,bs,a4x]
 · simp
 · intro i hi
   have hlen:=a56 f9 (.agg [.str (bs []),.int .i64 0,.int .i64 0]) l i hi
   simp [num,G4]
   refine f8 (fun h1=>?_) (fun h1=>?_)
   · have e1:(l.map f9)[i]?.getD .nilptr=f9 l[i]:=by simp [List.getElem?_eq_getElem h1]
     have e2:=a8q f9 (.agg [.str (bs []),.int .i64 0,.int .i64 0]) l i h1
     have e3:=a55 f9 (.agg [.str (bs []),.int .i64 0,.int .i64 0]) l i h1
     have e4:(a23 f9 (.agg [.str (bs []),.int .i64 0,.int .i64 0]) l i)[i]'(by omega)=(.agg [.str (bs []),.int .i64 0,.int .i64 0]):=by
      have h9:=e2
      rw [List.getElem?_eq_getElem (show i < (a23 f9 (.agg [.str (bs []),.int .i64 0,.int .i64 0]) l i).length by omega)] at h9
      exact h9
     simp [num,h1,e1,f9,tx,hlen,G4]
     refine b7 rfl rfl (.inl rfl) (b5c l[i] (hx.2 _ (List.getElem_mem h1))) ?_
     simp [num,h1,e1,e2,f9,tx,hlen,G4]
     refine LoopNext.mk (i+1) (by omega) (by omega) (Le.mk _ _ ?_ ?_)
     · simp [num];exact wrap_i64 (by omega) (by omega)
     · rw [← e3]
       simp [f9,num,tx,e4]
   · have e1:i=l.length:=by omega
     subst e1
     simp [num,a57,a1e,PV.pl]
theorem b8h {K:Kx (PExit→St→Prop)} (xs:List RV) (k i:Nat) (a0 a1 a2:RV) (hi:i < xs.length) (hk:k < 549755813888) (hl:xs.length < 1099511627776) (hx:xs[i]?.getD .nilptr=.agg [a0,a1,a2])
 (hn:∀ st':St,st'.env 0=.own 900→st'.env 1=.val (num ((k+3:Nat):Int))→st'.env 5=.val (num ((i+1:Nat):Int))→st'.mem 900=.row 162 3 (xs.set i (f9 (a1l k)))→K.k .normal st') :
 EC Tryz.prog ir95_l6 ⟨t6 [(0,.own 900),(1,.val (num k)),(5,.val (num i))],u1 [(900,.row 162 3 xs)]⟩ (K:=K):=by
 unfold ir95_l6
 have s1:IntKind.i64.wrap ((k:Int)+1)=(k:Int)+1:=wrap_i64 (by omega) (by omega)
 have hmk0:d8 Tryz.prog 94 [.val (.int .i64 ((k:Int)))] (.ret (.val (.str (bs (lmk (k+0))))) []) []:=by
  have h:=a04 (k+0) (by omega)
  exact h
 have s2:IntKind.i64.wrap ((k:Int)+1+1)=(k:Int)+1+1:=wrap_i64 (by omega) (by omega)
 have c1:((k+1:Nat):Int)=(k:Int)+1:=by omega
 have s3:IntKind.i64.wrap ((k:Int)+1+1+1)=(k:Int)+1+1+1:=wrap_i64 (by omega) (by omega)
 have c2:((k+2:Nat):Int)=(k:Int)+1+1:=by omega
 have si:IntKind.i64.wrap ((i:Int)+1)=(i:Int)+1:=wrap_i64 (by omega) (by omega)
 have hx':xs[i]=.agg [a0,a1,a2]:=by rw [← hx];simp [List.getElem?_eq_getElem hi]
 simp [num,hi]
 refine b7 rfl rfl (.inl rfl) hmk0 ?_
 simp [num,hi,hx,tx,s1,s2,s3]
 refine hn _ ?_ ?_ ?_ ?_
 · simp
 · simp only [y0,F7,y5,F5,y6,q7,y4,F6,l7,A7,G8,G9,j6,p5,p6,l1,y7,p9,l3,F4,x9,p8,p7,D5,D6,a0v,a0w,Option.getD_some,Option.getD_none,C2,t8,o5,D2,o4,n8,D4,n9,D3,D1,D0,H3,w6,o2,C8,v8,o1,C7,C0,C9,w5,C5,n7,v7,C6,H5,H4,C1,C3,o0,C4,w7,o3,B0,l9,B9,B8,B7,H0,u9,n0,B5,u6,m8,B4,A8,B6,u7,B2,l8,u5,B3,H2,H1,A9,u4,n6,B1,v6,n5,J3,J2,K6,J4,J8,J6,J5,K5,J7,J9,K2,K3,K4,z1,y9,y8,M1,M2,z8,F8,u0,E1,x2,K8,q8,Q2,M5,L7,N7,N9,N8,Q3,Q4,I5,I7,I6,I8,I9,N4,x4,N3,E2,E3,E4,x5,a0y,F1,x8,Q0,Q1,H6,M3,M4,Option.map_some,Option.map_none,E5,x6,w9,o6,D8,D9,H9,H8,O4,O3,J1,F2,F3,J0,O0,O1,I1,o8,I2,o7,M8,F0,E9,l2,N6,O2,I4,N0,N2,N1,x3,A4,A6,A5,k7,N5,Q6,Q5,M6,I3,U4,M7,o9,E7,E8,x7,E6,l0,u2,k9,u3,k8,K7,O5,O6,z6,z7,G0,F9,D7,z8,s1,s2,s3,num]
   simp
   try omega
 · simp [num,si]
 · simp [hi,hx,hx']
   try simp [s1,s2,s3,c1,c2,f9,a1l,num,tx]
theorem b6v (l:List LTarget) (k:Nat) (hk:k < 8388608) (hl:l.length≤1048576):a4w Tryz.prog 95 (.own 0) 162 3 (l.map f9) [.val (num k)] (num ((k+3*l.length:Nat):Int)) ((mkL a1l 3 l.length k).map f9):=by
 refine a3z mixed ok95 rfl ?_
 unfold ir95
 rw [b6]
 simp [d9,i6,j8,b8,d7,V2,PV.nm,num]
 refine j9 (X:=Nat) (fun i=>⟨t6 [(0,.own 900),(1,.val (num ((k+3*i:Nat):Int))),(5,.val (num i))],u1 [(900,.row 162 3 ((mkU a1l 3 l k i).map f9))]⟩) (fun i=>i≤l.length) (fun i=>l.length - i) 0 (Le.mk _ _ ?_ ?_) (Nat.zero_le _) ?_
 · simp [upd,num,PV.kill]
 · simp [a6b]
 · intro i hi
   have hml:=a8x a1l 3 l k i hi
   by_cases h1:i < l.length
   · have hmi:i < (mkU a1l 3 l k i).length:=by omega
     have hset:=a8w a1l 3 l k i h1
     refine b8h ((mkU a1l 3 l k i).map f9) (k+3*i) i (tx (mkU a1l 3 l k i)[i].url) (num (mkU a1l 3 l k i)[i].prio) (num (mkU a1l 3 l k i)[i].weight) (by simpa using hmi) (by omega) (by simp;omega) (by simp [List.getElem?_eq_getElem hmi,f9]) (fun st' q0 q1 q5 qm=>?_)
     simp
     refine LoopNext.mk (i+1) h1 (by omega) (Le.mk _ _ ?_ ?_)
     · simp [q0,q1,q5,num]
       omega
     · rw [← List.map_set,hset] at qm
       simp [qm]
   · have e:i=l.length:=by omega
     subst e
     unfold ir95_l6
     simp [num,hml,a8y,a1x]
theorem b5d (l:List LPeer) (hx:bdS 1048576 (a1c 1048576) l):d8 Tryz.prog 117 [.val (.list 6 (l.map G1))] (.ret (.own 0) [⟨164,6,l.map G1⟩]) []:=by
 refine a65 (mk:=fun i=>.own i) mixed ok117 rfl (fun _=>rfl) ?_
 unfold ir117
 rw [b6]
 have hl:l.length≤1048576:=hx.1
 simp [d9,i6,j8,b8,d7,num,G4]
 refine ⟨by omega,by omega,?_⟩
 refine j9 (X:=Nat) (fun i=>⟨t6 [(0,.val (.list 6 (l.map G1))),(3,.own 7),(4,.val (num i))],u1 [(7,.row 164 6 (a23 G1 (.agg [.str (bs []),.int .i64 0,.int .i64 0,.int .i64 0,.int .i64 0,.bool false]) l i))]⟩) (fun i=>i≤l.length) (fun i=>l.length - i) 0 (Le.mk _ _ ?_ ?_) ?_ ?_
 · simp [upd,num,PV.kill]
 · simp [upd,num,bs,a4x]
 · simp
 · intro i hi
   have hlen:=a56 G1 (.agg [.str (bs []),.int .i64 0,.int .i64 0,.int .i64 0,.int .i64 0,.bool false]) l i hi
   simp [num,G4]
   refine f8 (fun h1=>?_) (fun h1=>?_)
   · have e1:(l.map G1)[i]?.getD .nilptr=G1 l[i]:=by simp [List.getElem?_eq_getElem h1]
     have e2:=a8q G1 (.agg [.str (bs []),.int .i64 0,.int .i64 0,.int .i64 0,.int .i64 0,.bool false]) l i h1
     have e3:=a55 G1 (.agg [.str (bs []),.int .i64 0,.int .i64 0,.int .i64 0,.int .i64 0,.bool false]) l i h1
     have e4:(a23 G1 (.agg [.str (bs []),.int .i64 0,.int .i64 0,.int .i64 0,.int .i64 0,.bool false]) l i)[i]'(by omega)=(.agg [.str (bs []),.int .i64 0,.int .i64 0,.int .i64 0,.int .i64 0,.bool false]):=by
      have h9:=e2
      rw [List.getElem?_eq_getElem (show i < (a23 G1 (.agg [.str (bs []),.int .i64 0,.int .i64 0,.int .i64 0,.int .i64 0,.bool false]) l i).length by omega)] at h9
      exact h9
     simp [num,h1,e1,f9,G1,tx,hlen,G4]
     refine b7 rfl rfl (.inl rfl) (d0w l[i] (hx.2 _ (List.getElem_mem h1))) ?_
     simp [num,h1,e1,e2,f9,G1,tx,hlen,G4]
     refine LoopNext.mk (i+1) (by omega) (by omega) (Le.mk _ _ ?_ ?_)
     · simp [num];exact wrap_i64 (by omega) (by omega)
     · rw [← e3]
       simp [f9,G1,num,tx,e4]
   · have e1:i=l.length:=by omega
     subst e1
     simp [num,a57,a1e,PV.pl]
theorem c3k {K:Kx (PExit→St→Prop)} (xs:List RV) (k i:Nat) (a0 a1 a2 a3 a4 a5:RV) (hi:i < xs.length) (hk:k < 549755813888) (hl:xs.length < 1099511627776) (hx:xs[i]?.getD .nilptr=.agg [a0,a1,a2,a3,a4,a5])
 (hn:∀ st':St,st'.env 0=.own 900→st'.env 1=.val (num ((k+6:Nat):Int))→st'.env 5=.val (num ((i+1:Nat):Int))→st'.mem 900=.row 164 6 (xs.set i (G1 (a25 k)))→K.k .normal st') :
 EC Tryz.prog ir96_l6 ⟨t6 [(0,.own 900),(1,.val (num k)),(5,.val (num i))],u1 [(900,.row 164 6 xs)]⟩ (K:=K):=by
 unfold ir96_l6
 have s1:IntKind.i64.wrap ((k:Int)+1)=(k:Int)+1:=wrap_i64 (by omega) (by omega)
 have hmk0:d8 Tryz.prog 94 [.val (.int .i64 ((k:Int)))] (.ret (.val (.str (bs (lmk (k+0))))) []) []:=by
  have h:=a04 (k+0) (by omega)
  exact h
 have s2:IntKind.i64.wrap ((k:Int)+1+1)=(k:Int)+1+1:=wrap_i64 (by omega) (by omega)
 have c1:((k+1:Nat):Int)=(k:Int)+1:=by omega
 have s3:IntKind.i64.wrap ((k:Int)+1+1+1)=(k:Int)+1+1+1:=wrap_i64 (by omega) (by omega)
 have c2:((k+2:Nat):Int)=(k:Int)+1+1:=by omega
 have s4:IntKind.i64.wrap ((k:Int)+1+1+1+1)=(k:Int)+1+1+1+1:=wrap_i64 (by omega) (by omega)
 have c3:((k+3:Nat):Int)=(k:Int)+1+1+1:=by omega
 have s5:IntKind.i64.wrap ((k:Int)+1+1+1+1+1)=(k:Int)+1+1+1+1+1:=wrap_i64 (by omega) (by omega)
 have c4:((k+4:Nat):Int)=(k:Int)+1+1+1+1:=by omega
 have s6:IntKind.i64.wrap ((k:Int)+1+1+1+1+1+1)=(k:Int)+1+1+1+1+1+1:=wrap_i64 (by omega) (by omega)
 have c5:((k+5:Nat):Int)=(k:Int)+1+1+1+1+1:=by omega
 have hm5:(((k:Int)+1+1+1+1+1).tmod 3 == 0)=decide ((k+5) % 3=0):=by
  rw [Int.tmod_eq_emod_of_nonneg (by omega),Bool.eq_iff_iff]
  simp only [beq_iff_eq,decide_eq_true_eq]
  omega
 have si:IntKind.i64.wrap ((i:Int)+1)=(i:Int)+1:=wrap_i64 (by omega) (by omega)
 have hx':xs[i]=.agg [a0,a1,a2,a3,a4,a5]:=by rw [← hx];simp [List.getElem?_eq_getElem hi]
 simp [num,hi]
 refine b7 rfl rfl (.inl rfl) hmk0 ?_
 simp [num,hi,hx,tx,s1,s2,s3,s4,s5,s6]
 refine hn _ ?_ ?_ ?_ ?_
 · simp
 · simp only [y0,F7,y5,F5,y6,q7,y4,F6,l7,A7,G8,G9,j6,p5,p6,l1,y7,p9,l3,F4,x9,p8,p7,D5,D6,a0v,a0w,Option.getD_some,Option.getD_none,C2,t8,o5,D2,o4,n8,D4,n9,D3,D1,D0,H3,w6,o2,C8,v8,o1,C7,C0,C9,w5,C5,n7,v7,C6,H5,H4,C1,C3,o0,C4,w7,o3,B0,l9,B9,B8,B7,H0,u9,n0,B5,u6,m8,B4,A8,B6,u7,B2,l8,u5,B3,H2,H1,A9,u4,n6,B1,v6,n5,J3,J2,K6,J4,J8,J6,J5,K5,J7,J9,K2,K3,K4,z1,y9,y8,M1,M2,z8,F8,u0,E1,x2,K8,q8,Q2,M5,L7,N7,N9,N8,Q3,Q4,I5,I7,I6,I8,I9,N4,x4,N3,E2,E3,E4,x5,a0y,F1,x8,Q0,Q1,H6,M3,M4,Option.map_some,Option.map_none,E5,x6,w9,o6,D8,D9,H9,H8,O4,O3,J1,F2,F3,J0,O0,O1,I1,o8,I2,o7,M8,F0,E9,l2,N6,O2,I4,N0,N2,N1,x3,A4,A6,A5,k7,N5,Q6,Q5,M6,I3,U4,M7,o9,E7,E8,x7,E6,l0,u2,k9,u3,k8,K7,O5,O6,z6,z7,G0,F9,D7,z8,s1,s2,s3,s4,s5,s6,num]
   simp
   try omega
 · simp [num,si]
 · simp [hi,hx,hx']
   try simp [s1,s2,s3,s4,s5,s6,c1,c2,c3,c4,c5,hm5,f9,G1,a25,num,tx]
theorem c1e (l:List LPeer) (k:Nat) (hk:k < 8388608) (hl:l.length≤1048576):a4w Tryz.prog 96 (.own 0) 164 6 (l.map G1) [.val (num k)] (num ((k+6*l.length:Nat):Int)) ((mkL a25 6 l.length k).map G1):=by
 refine a3z mixed ok96 rfl ?_
 unfold ir96
 rw [b6]
 simp [d9,i6,j8,b8,d7,V2,PV.nm,num]
 refine j9 (X:=Nat) (fun i=>⟨t6 [(0,.own 900),(1,.val (num ((k+6*i:Nat):Int))),(5,.val (num i))],u1 [(900,.row 164 6 ((mkU a25 6 l k i).map G1))]⟩) (fun i=>i≤l.length) (fun i=>l.length - i) 0 (Le.mk _ _ ?_ ?_) (Nat.zero_le _) ?_
 · simp [upd,num,PV.kill]
 · simp [a6b]
 · intro i hi
   have hml:=a8x a25 6 l k i hi
   by_cases h1:i < l.length
   · have hmi:i < (mkU a25 6 l k i).length:=by omega
     have hset:=a8w a25 6 l k i h1
     refine c3k ((mkU a25 6 l k i).map G1) (k+6*i) i (tx (mkU a25 6 l k i)[i].target.url) (num (mkU a25 6 l k i)[i].target.prio) (num (mkU a25 6 l k i)[i].target.weight) (num (mkU a25 6 l k i)[i].fails) (num (mkU a25 6 l k i)[i].retry) (.bool (mkU a25 6 l k i)[i].gone) (by simpa using hmi) (by omega) (by simp;omega) (by simp [List.getElem?_eq_getElem hmi,f9,G1]) (fun st' q0 q1 q5 qm=>?_)
     simp
     refine LoopNext.mk (i+1) h1 (by omega) (Le.mk _ _ ?_ ?_)
     · simp [q0,q1,q5,num]
       omega
     · rw [← List.map_set,hset] at qm
       simp [qm]
   · have e:i=l.length:=by omega
     subst e
     unfold ir96_l6
     simp [num,hml,a8y,a1x]
theorem b19 (l:List LReport) (hx:bdS 1048576 (X4 1048576) l):d8 Tryz.prog 157 [.val (.list 4 (l.map j4))] (.ret (.own 0) [⟨146,4,l.map j4⟩]) []:=by
 refine a65 (mk:=fun i=>.own i) mixed ok157 rfl (fun _=>rfl) ?_
 unfold ir157
 rw [b6]
 have hl:l.length≤1048576:=hx.1
 simp [d9,i6,j8,b8,d7,num,G4]
 refine ⟨by omega,by omega,?_⟩
 refine j9 (X:=Nat) (fun i=>⟨t6 [(0,.val (.list 4 (l.map j4))),(3,.own 7),(4,.val (num i))],u1 [(7,.row 146 4 (a23 j4 (.agg [.int .i64 0,.int .i64 0,.int .i64 0,.str (bs [])]) l i))]⟩) (fun i=>i≤l.length) (fun i=>l.length - i) 0 (Le.mk _ _ ?_ ?_) ?_ ?_
 · simp [upd,num,PV.kill]
 · simp [upd,num,bs,a4x]
 · simp
 · intro i hi
   have hlen:=a56 j4 (.agg [.int .i64 0,.int .i64 0,.int .i64 0,.str (bs [])]) l i hi
   simp [num,G4]
   refine f8 (fun h1=>?_) (fun h1=>?_)
   · have e1:(l.map j4)[i]?.getD .nilptr=j4 l[i]:=by simp [List.getElem?_eq_getElem h1]
     have e2:=a8q j4 (.agg [.int .i64 0,.int .i64 0,.int .i64 0,.str (bs [])]) l i h1
     have e3:=a55 j4 (.agg [.int .i64 0,.int .i64 0,.int .i64 0,.str (bs [])]) l i h1
     have e4:(a23 j4 (.agg [.int .i64 0,.int .i64 0,.int .i64 0,.str (bs [])]) l i)[i]'(by omega)=(.agg [.int .i64 0,.int .i64 0,.int .i64 0,.str (bs [])]):=by
      have h9:=e2
      rw [List.getElem?_eq_getElem (show i < (a23 j4 (.agg [.int .i64 0,.int .i64 0,.int .i64 0,.str (bs [])]) l i).length by omega)] at h9
      exact h9
     simp [num,h1,e1,j4,tx,hlen,G4]
     refine b7 rfl rfl (.inl rfl) (c4i l[i] (hx.2 _ (List.getElem_mem h1))) ?_
     simp [num,h1,e1,e2,j4,tx,hlen,G4]
     refine LoopNext.mk (i+1) (by omega) (by omega) (Le.mk _ _ ?_ ?_)
     · simp [num];exact wrap_i64 (by omega) (by omega)
     · rw [← e3]
       simp [j4,num,tx,e4]
   · have e1:i=l.length:=by omega
     subst e1
     simp [num,a57,a1e,PV.pl]
theorem b8i {K:Kx (PExit→St→Prop)} (xs:List RV) (k i:Nat) (a0 a1 a2 a3:RV) (hi:i < xs.length) (hk:k < 549755813888) (hl:xs.length < 1099511627776) (hx:xs[i]?.getD .nilptr=.agg [a0,a1,a2,a3])
 (hn:∀ st':St,st'.env 0=.own 900→st'.env 1=.val (num ((k+4:Nat):Int))→st'.env 5=.val (num ((i+1:Nat):Int))→st'.mem 900=.row 146 4 (xs.set i (j4 (a06 k)))→K.k .normal st') :
 EC Tryz.prog ir97_l6 ⟨t6 [(0,.own 900),(1,.val (num k)),(5,.val (num i))],u1 [(900,.row 146 4 xs)]⟩ (K:=K):=by
 unfold ir97_l6
 have s1:IntKind.i64.wrap ((k:Int)+1)=(k:Int)+1:=wrap_i64 (by omega) (by omega)
 have s2:IntKind.i64.wrap ((k:Int)+1+1)=(k:Int)+1+1:=wrap_i64 (by omega) (by omega)
 have c1:((k+1:Nat):Int)=(k:Int)+1:=by omega
 have s3:IntKind.i64.wrap ((k:Int)+1+1+1)=(k:Int)+1+1+1:=wrap_i64 (by omega) (by omega)
 have c2:((k+2:Nat):Int)=(k:Int)+1+1:=by omega
 have s4:IntKind.i64.wrap ((k:Int)+1+1+1+1)=(k:Int)+1+1+1+1:=wrap_i64 (by omega) (by omega)
 have c3:((k+3:Nat):Int)=(k:Int)+1+1+1:=by omega
 have hmk3:d8 Tryz.prog 94 [.val (.int .i64 ((k:Int)+1+1+1))] (.ret (.val (.str (bs (lmk (k+3))))) []) []:=by
  have h:=a04 (k+3) (by omega)
  unfold num tx at h
  rwa [c3] at h
 have si:IntKind.i64.wrap ((i:Int)+1)=(i:Int)+1:=wrap_i64 (by omega) (by omega)
 have hx':xs[i]=.agg [a0,a1,a2,a3]:=by rw [← hx];simp [List.getElem?_eq_getElem hi]
 simp [num,hi,hx,s1,s2,s3,s4]
 refine b7 rfl rfl (.inl rfl) hmk3 ?_
 simp [num,hi,hx,tx,s1,s2,s3,s4]
 refine hn _ ?_ ?_ ?_ ?_
 · simp
 · simp only [y0,F7,y5,F5,y6,q7,y4,F6,l7,A7,G8,G9,j6,p5,p6,l1,y7,p9,l3,F4,x9,p8,p7,D5,D6,a0v,a0w,Option.getD_some,Option.getD_none,C2,t8,o5,D2,o4,n8,D4,n9,D3,D1,D0,H3,w6,o2,C8,v8,o1,C7,C0,C9,w5,C5,n7,v7,C6,H5,H4,C1,C3,o0,C4,w7,o3,B0,l9,B9,B8,B7,H0,u9,n0,B5,u6,m8,B4,A8,B6,u7,B2,l8,u5,B3,H2,H1,A9,u4,n6,B1,v6,n5,J3,J2,K6,J4,J8,J6,J5,K5,J7,J9,K2,K3,K4,z1,y9,y8,M1,M2,z8,F8,u0,E1,x2,K8,q8,Q2,M5,L7,N7,N9,N8,Q3,Q4,I5,I7,I6,I8,I9,N4,x4,N3,E2,E3,E4,x5,a0y,F1,x8,Q0,Q1,H6,M3,M4,Option.map_some,Option.map_none,E5,x6,w9,o6,D8,D9,H9,H8,O4,O3,J1,F2,F3,J0,O0,O1,I1,o8,I2,o7,M8,F0,E9,l2,N6,O2,I4,N0,N2,N1,x3,A4,A6,A5,k7,N5,Q6,Q5,M6,I3,U4,M7,o9,E7,E8,x7,E6,l0,u2,k9,u3,k8,K7,O5,O6,z6,z7,G0,F9,D7,z8,s1,s2,s3,s4,num]
   simp
   try omega
 · simp [num,si]
 · simp [hi,hx,hx']
   try simp [s1,s2,s3,s4,c1,c2,c3,j4,a06,num,tx]
theorem b6w (l:List LReport) (k:Nat) (hk:k < 8388608) (hl:l.length≤1048576):a4w Tryz.prog 97 (.own 0) 146 4 (l.map j4) [.val (num k)] (num ((k+4*l.length:Nat):Int)) ((mkL a06 4 l.length k).map j4):=by
 refine a3z mixed ok97 rfl ?_
 unfold ir97
 rw [b6]
 simp [d9,i6,j8,b8,d7,V2,PV.nm,num]
 refine j9 (X:=Nat) (fun i=>⟨t6 [(0,.own 900),(1,.val (num ((k+4*i:Nat):Int))),(5,.val (num i))],u1 [(900,.row 146 4 ((mkU a06 4 l k i).map j4))]⟩) (fun i=>i≤l.length) (fun i=>l.length - i) 0 (Le.mk _ _ ?_ ?_) (Nat.zero_le _) ?_
 · simp [upd,num,PV.kill]
 · simp [a6b]
 · intro i hi
   have hml:=a8x a06 4 l k i hi
   by_cases h1:i < l.length
   · have hmi:i < (mkU a06 4 l k i).length:=by omega
     have hset:=a8w a06 4 l k i h1
     refine b8i ((mkU a06 4 l k i).map j4) (k+4*i) i (num (mkU a06 4 l k i)[i].id) (num (mkU a06 4 l k i)[i].born) (num (mkU a06 4 l k i)[i].tries) (tx (mkU a06 4 l k i)[i].body) (by simpa using hmi) (by omega) (by simp;omega) (by simp [List.getElem?_eq_getElem hmi,j4]) (fun st' q0 q1 q5 qm=>?_)
     simp
     refine LoopNext.mk (i+1) h1 (by omega) (Le.mk _ _ ?_ ?_)
     · simp [q0,q1,q5,num]
       omega
     · rw [← List.map_set,hset] at qm
       simp [qm]
   · have e:i=l.length:=by omega
     subst e
     unfold ir97_l6
     simp [num,hml,a8y,a1x]
theorem b3k (l:List LEntry) (hx:l.length≤1048576):d8 Tryz.prog 39 [.val (.list 3 (l.map A2))] (.ret (.own 0) [⟨83,3,l.map A2⟩]) []:=by
 refine a65 (mk:=fun i=>.own i) mixed ok39 rfl (fun _=>rfl) ?_
 unfold ir39
 rw [b6]
 have hl:l.length≤1048576:=hx
 simp [d9,i6,j8,b8,d7,num,G4]
 refine ⟨by omega,by omega,?_⟩
 refine j9 (X:=Nat) (fun i=>⟨t6 [(0,.val (.list 3 (l.map A2))),(3,.own 7),(4,.val (num i))],u1 [(7,.row 83 3 (a23 A2 (.agg [.int .i64 0,.int .i64 0,.int .i64 0]) l i))]⟩) (fun i=>i≤l.length) (fun i=>l.length - i) 0 (Le.mk _ _ ?_ ?_) ?_ ?_
 · simp [upd,num,PV.kill]
 · simp [upd,num,bs,a4x]
 · simp
 · intro i hi
   have hlen:=a56 A2 (.agg [.int .i64 0,.int .i64 0,.int .i64 0]) l i hi
   simp [num,G4]
   refine f8 (fun h1=>?_) (fun h1=>?_)
   · have e1:(l.map A2)[i]?.getD .nilptr=A2 l[i]:=by simp [List.getElem?_eq_getElem h1]
     have e2:=a8q A2 (.agg [.int .i64 0,.int .i64 0,.int .i64 0]) l i h1
     have e3:=a55 A2 (.agg [.int .i64 0,.int .i64 0,.int .i64 0]) l i h1
     have e4:(a23 A2 (.agg [.int .i64 0,.int .i64 0,.int .i64 0]) l i)[i]'(by omega)=(.agg [.int .i64 0,.int .i64 0,.int .i64 0]):=by
      have h9:=e2
      rw [List.getElem?_eq_getElem (show i < (a23 A2 (.agg [.int .i64 0,.int .i64 0,.int .i64 0]) l i).length by omega)] at h9
      exact h9
     simp [num,h1,e1,A2,tx,hlen,G4]
     refine b7 rfl rfl (.inl rfl) (c7v l[i] trivial) ?_
     simp [num,h1,e1,e2,A2,tx,hlen,G4]
     refine LoopNext.mk (i+1) (by omega) (by omega) (Le.mk _ _ ?_ ?_)
     · simp [num];exact wrap_i64 (by omega) (by omega)
     · rw [← e3]
       simp [A2,num,tx,e4]
   · have e1:i=l.length:=by omega
     subst e1
     simp [num,a57,a1e,PV.pl]
theorem c0j {K:Kx (PExit→St→Prop)} (xs:List RV) (k i:Nat) (a0 a1 a2:RV) (hi:i < xs.length) (hk:k < 549755813888) (hl:xs.length < 1099511627776) (hx:xs[i]?.getD .nilptr=.agg [a0,a1,a2])
 (hn:∀ st':St,st'.env 0=.own 900→st'.env 1=.val (num ((k+3:Nat):Int))→st'.env 5=.val (num ((i+1:Nat):Int))→st'.mem 900=.row 83 3 (xs.set i (A2 (a27 k)))→K.k .normal st') :
 EC Tryz.prog ir20_l6 ⟨t6 [(0,.own 900),(1,.val (num k)),(5,.val (num i))],u1 [(900,.row 83 3 xs)]⟩ (K:=K):=by
 unfold ir20_l6
 have s1:IntKind.i64.wrap ((k:Int)+1)=(k:Int)+1:=wrap_i64 (by omega) (by omega)
 have s2:IntKind.i64.wrap ((k:Int)+1+1)=(k:Int)+1+1:=wrap_i64 (by omega) (by omega)
 have c1:((k+1:Nat):Int)=(k:Int)+1:=by omega
 have s3:IntKind.i64.wrap ((k:Int)+1+1+1)=(k:Int)+1+1+1:=wrap_i64 (by omega) (by omega)
 have c2:((k+2:Nat):Int)=(k:Int)+1+1:=by omega
 have si:IntKind.i64.wrap ((i:Int)+1)=(i:Int)+1:=wrap_i64 (by omega) (by omega)
 have hx':xs[i]=.agg [a0,a1,a2]:=by rw [← hx];simp [List.getElem?_eq_getElem hi]
 simp [num,hi,hx,s1,s2,s3]
 refine hn _ ?_ ?_ ?_ ?_
 · simp
 · simp only [y0,F7,y5,F5,y6,q7,y4,F6,l7,A7,G8,G9,j6,p5,p6,l1,y7,p9,l3,F4,x9,p8,p7,D5,D6,a0v,a0w,Option.getD_some,Option.getD_none,C2,t8,o5,D2,o4,n8,D4,n9,D3,D1,D0,H3,w6,o2,C8,v8,o1,C7,C0,C9,w5,C5,n7,v7,C6,H5,H4,C1,C3,o0,C4,w7,o3,B0,l9,B9,B8,B7,H0,u9,n0,B5,u6,m8,B4,A8,B6,u7,B2,l8,u5,B3,H2,H1,A9,u4,n6,B1,v6,n5,J3,J2,K6,J4,J8,J6,J5,K5,J7,J9,K2,K3,K4,z1,y9,y8,M1,M2,z8,F8,u0,E1,x2,K8,q8,Q2,M5,L7,N7,N9,N8,Q3,Q4,I5,I7,I6,I8,I9,N4,x4,N3,E2,E3,E4,x5,a0y,F1,x8,Q0,Q1,H6,M3,M4,Option.map_some,Option.map_none,E5,x6,w9,o6,D8,D9,H9,H8,O4,O3,J1,F2,F3,J0,O0,O1,I1,o8,I2,o7,M8,F0,E9,l2,N6,O2,I4,N0,N2,N1,x3,A4,A6,A5,k7,N5,Q6,Q5,M6,I3,U4,M7,o9,E7,E8,x7,E6,l0,u2,k9,u3,k8,K7,O5,O6,z6,z7,G0,F9,D7,z8,s1,s2,s3,num]
   simp
   try omega
 · simp [num,si]
 · simp [hi,hx,hx']
   try simp [s1,s2,s3,c1,c2,A2,a27,num,tx]
theorem b83 (l:List LEntry) (k:Nat) (hk:k < 8388608) (hl:l.length≤1048576):a4w Tryz.prog 20 (.own 0) 83 3 (l.map A2) [.val (num k)] (num ((k+3*l.length:Nat):Int)) ((mkL a27 3 l.length k).map A2):=by
 refine a3z mixed ok20 rfl ?_
 unfold ir20
 rw [b6]
 simp [d9,i6,j8,b8,d7,V2,PV.nm,num]
 refine j9 (X:=Nat) (fun i=>⟨t6 [(0,.own 900),(1,.val (num ((k+3*i:Nat):Int))),(5,.val (num i))],u1 [(900,.row 83 3 ((mkU a27 3 l k i).map A2))]⟩) (fun i=>i≤l.length) (fun i=>l.length - i) 0 (Le.mk _ _ ?_ ?_) (Nat.zero_le _) ?_
 · simp [upd,num,PV.kill]
 · simp [a6b]
 · intro i hi
   have hml:=a8x a27 3 l k i hi
   by_cases h1:i < l.length
   · have hmi:i < (mkU a27 3 l k i).length:=by omega
     have hset:=a8w a27 3 l k i h1
     refine c0j ((mkU a27 3 l k i).map A2) (k+3*i) i (num (mkU a27 3 l k i)[i].kind) (num (mkU a27 3 l k i)[i].id) (num (mkU a27 3 l k i)[i].at_) (by simpa using hmi) (by omega) (by simp;omega) (by simp [List.getElem?_eq_getElem hmi,A2]) (fun st' q0 q1 q5 qm=>?_)
     simp
     refine LoopNext.mk (i+1) h1 (by omega) (Le.mk _ _ ?_ ?_)
     · simp [q0,q1,q5,num]
       omega
     · rw [← List.map_set,hset] at qm
       simp [qm]
   · have e:i=l.length:=by omega
     subst e
     unfold ir20_l6
     simp [num,hml,a8y,a1x]
end Go.Proofs
end
section
namespace Go.Proofs
open Go.PW Go.KP
attribute [local simp] RV.cells RV.one PV.cells PV.solid PV.one G4 i7 L9 L6 RV.ofCells elems PV.killL
variable [GF]
theorem c4f (n k:Nat) (hk:k < 8388608) (hl:n≤1048576):d8 Tryz.prog 26 [.val (.list 1 ((mkL a26 1 n k).map num)),.val (num k)] (.ret (.val (num ((k+1*n:Nat):Int))) []) []:=by
 refine f7 mixed ok26 rfl (fun _=>rfl) ?_
 unfold ir26
 rw [b6]
 have hlen:=a1x a26 1 n k
 simp [d9,i6,j8,b8,d7,num]
 refine j9 (X:=Nat) (fun i=>⟨t6 [(0,.val (.list 1 ((mkL a26 1 n k).map num))),(1,.val (num ((k+1*i:Nat):Int))),(5,.val (num i))],u1 []⟩) (fun i=>i≤n) (fun i=>n - i) 0 (Le.mk _ _ ?_ ?_) (Nat.zero_le _) ?_
 · simp [upd,num,PV.kill]
 · simp
 · intro i hi
   unfold ir26_l6
   by_cases h1:i < n
   · have hi':i < (mkL a26 1 n k).length:=by omega
     have hat:(mkL a26 1 n k)[i]=a26 (k+1*i):=mkL_at h1
     have e1:((mkL a26 1 n k).map num)[i]?.getD .nilptr=num (a26 (k+1*i)):=by simp [List.getElem?_eq_getElem hi',hat]
     generalize hj:k+1*i=j at *
     have hjj:j < 1099511627776:=by omega
     have s1:IntKind.i64.wrap ((j:Int)+1)=((j+1:Nat):Int):=by rw [wrap_i64 (by omega) (by omega)];omega
     have si:IntKind.i64.wrap ((i:Int)+1)=((i+1:Nat):Int):=by rw [wrap_i64 (by omega) (by omega)];omega
     have hat2:a26 j=(j:Int):=rfl
     simp [num,a1x,h1,e1,hat,hat2,tx,s1,si]
     refine LoopNext.mk (i+1) h1 (by omega) (Le.mk _ _ ?_ ?_)
     · simp [num,s1,si]
       omega
     · simp
   · have e:i=n:=by omega
     subst e
     simp [num,a1x]
end Go.Proofs
end
