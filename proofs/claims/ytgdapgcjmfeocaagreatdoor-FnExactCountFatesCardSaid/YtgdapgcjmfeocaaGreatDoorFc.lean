/- Fc: merged out of KXm, KXa, KXh. -/
import Derived.Test.YtgdapgcjmfeocaaGreatDoorPWw
import Derived.Test.YtgdapgcjmfeocaaGreatDoorCa
import Derived.Test.YtgdapgcjmfeocaaGreatDoorAc
import Derived.Test.YtgdapgcjmfeocaaGreatDoorBa
import Derived.Test.YtgdapgcjmfeocaaGreatDoorCc
import Derived.Test.YtgdapgcjmfeocaaGreatDoorPWae
set_option linter.unusedSectionVars false
set_option linter.unusedSimpArgs false
set_option linter.unusedVariables false
set_option maxRecDepth 100000
section
namespace Go.Proofs
open Go.PW Go.KP
attribute [local simp] RV.cells RV.one PV.cells PV.solid PV.one G3 i7 L8 L5 RV.ofCells elems PV.killL
variable [GF]
theorem a03 (k:Nat) (hk:k < 1099511627776):d8 Tryz.prog 94 [.val (num k)] (.ret (.val (tx (lmk k))) []) []:=by
 refine f6 mixed ok94 rfl (fun _=>rfl) ?_
 unfold ir94
 rw [b6]
 unfold lmk
 by_cases h0:k=0
 · subst h0
   simp [d9,i6,j9,b8,d7,num,tx,bs]
 · have h0':¬ (k:Int)≤0:=by omega
   rw [if_neg h0]
   simp [d9,i6,j9,b8,d7,num,h0',h0]
   refine j8 (X:=Nat×Tx) (fun x=>⟨t6 [(0,.val (num x.1)),(3,.val (tx x.2))],t8 []⟩) (fun x=>x.1≤k∧x.2.length+x.1≤k∧b6u x.1 x.2=b6u k []) (fun x=>x.1) (k,[]) (Le.mk _ _ ?_ ?_) ⟨Nat.le_refl _,by simp,rfl⟩ ?_
   · simp [upd,num,tx,bs]
   · simp
   · rintro ⟨m,out⟩ ⟨hm,hlen,hF⟩
     simp only at hm hlen hF
     by_cases hz:m=0
     · subst hz
       rw [c7g] at hF
       subst hF
       have hlk:1+(b6u k []).length≤9223372036854775807:=by omega
       simp [num,tx,bs_mk,L3,b9,hlk]
     · have hp:(0:Int) < (m:Int):=by omega
       have hp2:0 < m:=by omega
       rw [d0b hz] at hF
       have g6:(m:Int).tdiv 10=((m / 10:Nat):Int):=by rw [Int.tdiv_eq_ediv_of_nonneg (by omega)];omega
       have g7:(m:Int).tmod 10=((m % 10:Nat):Int):=by rw [Int.tmod_eq_emod_of_nonneg (by omega)];omega
       have ha:m / 10 < m:=Nat.div_lt_self (by omega) (by omega)
       have hb:m % 10 < 10:=Nat.mod_lt _ (by omega)
       have hl10:(UInt8.ofNat (48+m % 10) :: out).length+m / 10≤k:=by simp only [List.length_cons];omega
       have g8:IntKind.i64.wrap ((m / 10:Nat):Int)=((m / 10:Nat):Int):=wrap_i64 (by omega) (by omega)
       have g4:IntKind.i64.wrap (48+((m % 10:Nat):Int))=48+((m % 10:Nat):Int):=wrap_i64 (by omega) (by omega)
       have g5:IntKind.u8.wrap (48+((m % 10:Nat):Int))=48+((m % 10:Nat):Int):=b3q (by omega) (by omega)
       have g9:=d1p (m % 10)
       generalize m / 10=a at *
       generalize m % 10=b at *
       have hsz:1+out.length≤9223372036854775807:=by simp only [List.length_cons] at hl10;omega
       simp [d9,i6,j9,b8,d7,num,tx,hp,hp2,hz,g6,g7,g8,g4,g5,RV.isU8,g9,b9,L3]
       refine ⟨hsz,LoopNext.mk (a,UInt8.ofNat (48+b) :: out) ⟨by omega,hl10,hF⟩ ha (Le.mk _ _ ?_ ?_)⟩
       · simp [num,tx]
       · simp
end Go.Proofs
end
section
namespace Go.Proofs
open Go.PW Go.KP
attribute [local simp] RV.cells RV.one PV.cells PV.solid PV.one G3 i7 L8 L5 RV.ofCells elems PV.killL
variable [GF]
theorem b2a (l:List Tx) (hx:bdS 1048576 (fun t=>t.length≤1048576) l):d8 Tryz.prog 76 [.val (.list 1 (l.map tx))] (.ret (.own 0) [⟨9,1,l.map tx⟩]) []:=by
 refine a67 (mk:=fun i=>.own i) mixed ok76 rfl (fun _=>rfl) ?_
 unfold ir76
 rw [b6]
 have hl:l.length≤1048576:=hx.1
 simp [d9,i6,j9,b8,d7,num,G3]
 refine ⟨by omega,by omega,?_⟩
 refine j8 (X:=Nat) (fun i=>⟨t6 [(0,.val (.list 1 (l.map tx))),(3,.own 7),(4,.val (num i))],t8 [(7,.row 9 1 (a23 tx (.str (bs [])) l i))]⟩) (fun i=>i≤l.length) (fun i=>l.length - i) 0 (Le.mk _ _ ?_ ?_) ?_ ?_
 · simp [upd,num,PV.kill]
 · simp [upd,num,bs,a4w]
 · simp
 · intro i hi
   have hlen:=a57 tx (.str (bs [])) l i hi
   simp [num,G3]
   refine f8 (fun h1=>?_) (fun h1=>?_)
   · have e1:(l.map tx)[i]?.getD .nilptr=tx l[i]:=by simp [List.getElem?_eq_getElem h1]
     have e2:=a8s tx (.str (bs [])) l i h1
     have e3:=a56 tx (.str (bs [])) l i h1
     have e4:(a23 tx (.str (bs [])) l i)[i]'(by omega)=(.str (bs [])):=by
      have h9:=e2
      rw [List.getElem?_eq_getElem (show i < (a23 tx (.str (bs [])) l i).length by omega)] at h9
      exact h9
     simp [num,h1,e1,tx,hlen,G3]
     refine LoopNext.mk (i+1) (by omega) (by omega) (Le.mk _ _ ?_ ?_)
     · simp [num];exact wrap_i64 (by omega) (by omega)
     · rw [← e3]
       simp [num,tx,e4]
   · have e1:i=l.length:=by omega
     subst e1
     simp [num,a58,a1d,PV.pl]
theorem c7a {K:Kx (PExit→St→Prop)} (xs:List RV) (k i:Nat) (a0:ByteArray) (hi:i < xs.length) (hk:k < 549755813888) (hl:xs.length < 1099511627776) (hx:xs[i]?.getD .nilptr=.str a0)
 (hn:∀ st':St,st'.env 0=.own 900→st'.env 1=.val (num ((k+1:Nat):Int))→st'.env 5=.val (num ((i+1:Nat):Int))→st'.mem 900=.row 9 1 (xs.set i (tx (lmk k)))→K.k .normal st') :
 EC Tryz.prog ir98_l6 ⟨t6 [(0,.own 900),(1,.val (num k)),(5,.val (num i))],t8 [(900,.row 9 1 xs)]⟩ (K:=K):=by
 unfold ir98_l6
 have s1:IntKind.i64.wrap ((k:Int)+1)=(k:Int)+1:=wrap_i64 (by omega) (by omega)
 have hmk0:d8 Tryz.prog 94 [.val (.int .i64 ((k:Int)))] (.ret (.val (.str (bs (lmk (k+0))))) []) []:=by
  have h:=a03 (k+0) (by omega)
  exact h
 have si:IntKind.i64.wrap ((i:Int)+1)=(i:Int)+1:=wrap_i64 (by omega) (by omega)
 have hx':xs[i]=.str a0:=by rw [← hx];simp [List.getElem?_eq_getElem hi]
 simp [num,hi]
 refine b7 rfl rfl (.inl rfl) hmk0 ?_
 simp [num,hi,hx,tx,s1]
 refine hn _ ?_ ?_ ?_ ?_
 · simp
 · simp only [x9,F6,y4,F4,y5,q7,y0,F5,l7,A6,G7,G8,j6,p5,p6,l1,y6,p9,l3,F3,x8,p8,p7,D4,D5,a0u,a0v,Option.getD_some,Option.getD_none,C1,u0,o5,D1,o4,n8,D3,n9,D2,D0,C9,H2,w6,o2,C7,v8,o1,C6,B9,C8,w5,C4,n7,v7,C5,H4,H3,C0,C2,o0,C3,w7,o3,A9,l9,B8,B7,B6,G9,u9,n0,B4,u6,m8,B3,A7,B5,u7,B1,l8,u5,B2,H1,H0,A8,u4,n6,B0,v6,n5,J2,J1,K5,J3,J7,J5,J4,K4,J6,J8,J9,K2,K3,y9,y8,y7,M0,M1,z7,F7,u1,D9,x1,K7,q8,Q1,M4,L6,N6,N8,N7,Q2,Q3,I4,I6,I5,I7,I8,N3,x3,N2,E1,E2,E3,x4,a0x,F0,x7,P9,Q0,H5,M2,M3,Option.map_some,Option.map_none,E4,x5,w9,o6,D7,D8,H8,H7,O3,O2,J0,F1,F2,I9,N9,O0,I0,o8,I1,o7,M7,E9,E8,l2,N5,O1,I3,M9,N1,N0,x2,A3,A5,A4,k7,N4,Q5,Q4,M5,I2,U4,M6,o9,E6,E7,x6,E5,l0,u2,k9,u3,k8,K6,O4,O5,z1,z6,F9,F8,D6,z7,s1,num]
   simp
   try omega
 · simp [num,si]
 · simp [hi,hx,hx']
   try simp [s1,num,tx]
theorem a5z (l:List Tx) (k:Nat) (hk:k < 8388608) (hl:l.length≤1048576):a4v Tryz.prog 98 (.own 0) 9 1 (l.map tx) [.val (num k)] (num ((k+1*l.length:Nat):Int)) ((mkL lmk 1 l.length k).map tx):=by
 refine a3y mixed ok98 rfl ?_
 unfold ir98
 rw [b6]
 simp [d9,i6,j9,b8,d7,V1,PV.nm,num]
 refine j8 (X:=Nat) (fun i=>⟨t6 [(0,.own 900),(1,.val (num ((k+1*i:Nat):Int))),(5,.val (num i))],t8 [(900,.row 9 1 ((mkU lmk 1 l k i).map tx))]⟩) (fun i=>i≤l.length) (fun i=>l.length - i) 0 (Le.mk _ _ ?_ ?_) (Nat.zero_le _) ?_
 · simp [upd,num,PV.kill]
 · simp [a6d]
 · intro i hi
   have hml:=a8z lmk 1 l k i hi
   by_cases h1:i < l.length
   · have hmi:i < (mkU lmk 1 l k i).length:=by omega
     have hset:=a8y lmk 1 l k i h1
     refine c7a ((mkU lmk 1 l k i).map tx) (k+1*i) i (bs (mkU lmk 1 l k i)[i]) (by simpa using hmi) (by omega) (by simp;omega) (by simp [List.getElem?_eq_getElem hmi,tx]) (fun st' q0 q1 q5 qm=>?_)
     simp
     refine LoopNext.mk (i+1) h1 (by omega) (Le.mk _ _ ?_ ?_)
     · simp [q0,q1,q5,num]
       omega
     · rw [← List.map_set,hset] at qm
       simp [qm]
   · have e:i=l.length:=by omega
     subst e
     unfold ir98_l6
     simp [num,hml,a81,a1w]
theorem b64 (l:List Int) (hx:l.length≤1048576):d8 Tryz.prog 120 [.val (.list 1 (l.map num))] (.ret (.own 0) [⟨3,1,l.map num⟩]) []:=by
 refine a67 (mk:=fun i=>.own i) mixed ok120 rfl (fun _=>rfl) ?_
 unfold ir120
 rw [b6]
 have hl:l.length≤1048576:=hx
 simp [d9,i6,j9,b8,d7,num,G3]
 refine ⟨by omega,by omega,?_⟩
 refine j8 (X:=Nat) (fun i=>⟨t6 [(0,.val (.list 1 (l.map num))),(3,.own 7),(4,.val (num i))],t8 [(7,.row 3 1 (a23 num (.int .i64 0) l i))]⟩) (fun i=>i≤l.length) (fun i=>l.length - i) 0 (Le.mk _ _ ?_ ?_) ?_ ?_
 · simp [upd,num,PV.kill]
 · simp [upd,num,bs,a4w]
 · simp
 · intro i hi
   have hlen:=a57 num (.int .i64 0) l i hi
   simp [num,G3]
   refine f8 (fun h1=>?_) (fun h1=>?_)
   · have e1:(l.map num)[i]?.getD .nilptr=num l[i]:=by simp [List.getElem?_eq_getElem h1]
     have e2:=a8s num (.int .i64 0) l i h1
     have e3:=a56 num (.int .i64 0) l i h1
     have e4:(a23 num (.int .i64 0) l i)[i]'(by omega)=(.int .i64 0):=by
      have h9:=e2
      rw [List.getElem?_eq_getElem (show i < (a23 num (.int .i64 0) l i).length by omega)] at h9
      exact h9
     simp [num,h1,e1,tx,hlen,G3]
     refine LoopNext.mk (i+1) (by omega) (by omega) (Le.mk _ _ ?_ ?_)
     · simp [num];exact wrap_i64 (by omega) (by omega)
     · rw [← e3]
       simp [num,tx,e4]
   · have e1:i=l.length:=by omega
     subst e1
     simp [num,a58,a1d,PV.pl]
theorem c7b {K:Kx (PExit→St→Prop)} (xs:List RV) (k i:Nat) (a0:Int) (hi:i < xs.length) (hk:k < 549755813888) (hl:xs.length < 1099511627776) (hx:xs[i]?.getD .nilptr=.int .i64 a0)
 (hn:∀ st':St,st'.env 0=.own 900→st'.env 1=.val (num ((k+1:Nat):Int))→st'.env 5=.val (num ((i+1:Nat):Int))→st'.mem 900=.row 3 1 (xs.set i (num (a26 k)))→K.k .normal st') :
 EC Tryz.prog ir25_l6 ⟨t6 [(0,.own 900),(1,.val (num k)),(5,.val (num i))],t8 [(900,.row 3 1 xs)]⟩ (K:=K):=by
 unfold ir25_l6
 have s1:IntKind.i64.wrap ((k:Int)+1)=(k:Int)+1:=wrap_i64 (by omega) (by omega)
 have si:IntKind.i64.wrap ((i:Int)+1)=(i:Int)+1:=wrap_i64 (by omega) (by omega)
 have hx':xs[i]=.int .i64 a0:=by rw [← hx];simp [List.getElem?_eq_getElem hi]
 simp [num,hi,hx,s1]
 refine hn _ ?_ ?_ ?_ ?_
 · simp
 · simp only [x9,F6,y4,F4,y5,q7,y0,F5,l7,A6,G7,G8,j6,p5,p6,l1,y6,p9,l3,F3,x8,p8,p7,D4,D5,a0u,a0v,Option.getD_some,Option.getD_none,C1,u0,o5,D1,o4,n8,D3,n9,D2,D0,C9,H2,w6,o2,C7,v8,o1,C6,B9,C8,w5,C4,n7,v7,C5,H4,H3,C0,C2,o0,C3,w7,o3,A9,l9,B8,B7,B6,G9,u9,n0,B4,u6,m8,B3,A7,B5,u7,B1,l8,u5,B2,H1,H0,A8,u4,n6,B0,v6,n5,J2,J1,K5,J3,J7,J5,J4,K4,J6,J8,J9,K2,K3,y9,y8,y7,M0,M1,z7,F7,u1,D9,x1,K7,q8,Q1,M4,L6,N6,N8,N7,Q2,Q3,I4,I6,I5,I7,I8,N3,x3,N2,E1,E2,E3,x4,a0x,F0,x7,P9,Q0,H5,M2,M3,Option.map_some,Option.map_none,E4,x5,w9,o6,D7,D8,H8,H7,O3,O2,J0,F1,F2,I9,N9,O0,I0,o8,I1,o7,M7,E9,E8,l2,N5,O1,I3,M9,N1,N0,x2,A3,A5,A4,k7,N4,Q5,Q4,M5,I2,U4,M6,o9,E6,E7,x6,E5,l0,u2,k9,u3,k8,K6,O4,O5,z1,z6,F9,F8,D6,z7,s1,num]
   simp
   try omega
 · simp [num,si]
 · simp [hi,hx,hx']
   try simp [s1,a26,num,tx]
theorem b5f (l:List Int) (k:Nat) (hk:k < 8388608) (hl:l.length≤1048576):a4v Tryz.prog 25 (.own 0) 3 1 (l.map num) [.val (num k)] (num ((k+1*l.length:Nat):Int)) ((mkL a26 1 l.length k).map num):=by
 refine a3y mixed ok25 rfl ?_
 unfold ir25
 rw [b6]
 simp [d9,i6,j9,b8,d7,V1,PV.nm,num]
 refine j8 (X:=Nat) (fun i=>⟨t6 [(0,.own 900),(1,.val (num ((k+1*i:Nat):Int))),(5,.val (num i))],t8 [(900,.row 3 1 ((mkU a26 1 l k i).map num))]⟩) (fun i=>i≤l.length) (fun i=>l.length - i) 0 (Le.mk _ _ ?_ ?_) (Nat.zero_le _) ?_
 · simp [upd,num,PV.kill]
 · simp [a6d]
 · intro i hi
   have hml:=a8z a26 1 l k i hi
   by_cases h1:i < l.length
   · have hmi:i < (mkU a26 1 l k i).length:=by omega
     have hset:=a8y a26 1 l k i h1
     refine c7b ((mkU a26 1 l k i).map num) (k+1*i) i (mkU a26 1 l k i)[i] (by simpa using hmi) (by omega) (by simp;omega) (by simp [List.getElem?_eq_getElem hmi,num]) (fun st' q0 q1 q5 qm=>?_)
     simp
     refine LoopNext.mk (i+1) h1 (by omega) (Le.mk _ _ ?_ ?_)
     · simp [q0,q1,q5,num]
       omega
     · rw [← List.map_set,hset] at qm
       simp [qm]
   · have e:i=l.length:=by omega
     subst e
     unfold ir25_l6
     simp [num,hml,a81,a1w]
theorem b19 (l:List LTarget) (hx:bdS 1048576 (U5 1048576) l):d8 Tryz.prog 155 [.val (.list 3 (l.map f9))] (.ret (.own 0) [⟨162,3,l.map f9⟩]) []:=by
 refine a67 (mk:=fun i=>.own i) mixed ok155 rfl (fun _=>rfl) ?_
 unfold ir155
 rw [b6]
 have hl:l.length≤1048576:=hx.1
 simp [d9,i6,j9,b8,d7,num,G3]
 refine ⟨by omega,by omega,?_⟩
 refine j8 (X:=Nat) (fun i=>⟨t6 [(0,.val (.list 3 (l.map f9))),(3,.own 7),(4,.val (num i))],t8 [(7,.row 162 3 (a23 f9 (.agg [.str (bs []),.int .i64 0,.int .i64 0]) l i))]⟩) (fun i=>i≤l.length) (fun i=>l.length - i) 0 (Le.mk _ _ ?_ ?_) ?_ ?_
 · simp [upd,num,PV.kill]
 · simp [upd,num,bs,a4w]
 · simp
 · intro i hi
   have hlen:=a57 f9 (.agg [.str (bs []),.int .i64 0,.int .i64 0]) l i hi
   simp [num,G3]
   refine f8 (fun h1=>?_) (fun h1=>?_)
   · have e1:(l.map f9)[i]?.getD .nilptr=f9 l[i]:=by simp [List.getElem?_eq_getElem h1]
     have e2:=a8s f9 (.agg [.str (bs []),.int .i64 0,.int .i64 0]) l i h1
     have e3:=a56 f9 (.agg [.str (bs []),.int .i64 0,.int .i64 0]) l i h1
     have e4:(a23 f9 (.agg [.str (bs []),.int .i64 0,.int .i64 0]) l i)[i]'(by omega)=(.agg [.str (bs []),.int .i64 0,.int .i64 0]):=by
      have h9:=e2
      rw [List.getElem?_eq_getElem (show i < (a23 f9 (.agg [.str (bs []),.int .i64 0,.int .i64 0]) l i).length by omega)] at h9
      exact h9
     simp [num,h1,e1,f9,tx,hlen,G3]
     refine b7 rfl rfl (.inl rfl) (b5i l[i] (hx.2 _ (List.getElem_mem h1))) ?_
     simp [num,h1,e1,e2,f9,tx,hlen,G3]
     refine LoopNext.mk (i+1) (by omega) (by omega) (Le.mk _ _ ?_ ?_)
     · simp [num];exact wrap_i64 (by omega) (by omega)
     · rw [← e3]
       simp [f9,num,tx,e4]
   · have e1:i=l.length:=by omega
     subst e1
     simp [num,a58,a1d,PV.pl]
theorem b8v {K:Kx (PExit→St→Prop)} (xs:List RV) (k i:Nat) (a0 a1 a2:RV) (hi:i < xs.length) (hk:k < 549755813888) (hl:xs.length < 1099511627776) (hx:xs[i]?.getD .nilptr=.agg [a0,a1,a2])
 (hn:∀ st':St,st'.env 0=.own 900→st'.env 1=.val (num ((k+3:Nat):Int))→st'.env 5=.val (num ((i+1:Nat):Int))→st'.mem 900=.row 162 3 (xs.set i (f9 (a1k k)))→K.k .normal st') :
 EC Tryz.prog ir95_l6 ⟨t6 [(0,.own 900),(1,.val (num k)),(5,.val (num i))],t8 [(900,.row 162 3 xs)]⟩ (K:=K):=by
 unfold ir95_l6
 have s1:IntKind.i64.wrap ((k:Int)+1)=(k:Int)+1:=wrap_i64 (by omega) (by omega)
 have hmk0:d8 Tryz.prog 94 [.val (.int .i64 ((k:Int)))] (.ret (.val (.str (bs (lmk (k+0))))) []) []:=by
  have h:=a03 (k+0) (by omega)
  exact h
 have s2:IntKind.i64.wrap ((k:Int)+1+1)=(k:Int)+1+1:=wrap_i64 (by omega) (by omega)
 have c1:((k+1:Nat):Int)=(k:Int)+1:=by omega
 have s3:IntKind.i64.wrap ((k:Int)+1+1+1)=(k:Int)+1+1+1:=wrap_i64 (by omega) (by omega)
 have c2:((k+2:Nat):Int)=(k:Int)+1+1:=by omega
 have si:IntKind.i64.wrap ((i:Int)+1)=(i:Int)+1:=wrap_i64 (by omega) (by omega)
 have hx':xs[i]=.agg [a0,a1,a2]:=by rw [← hx];simp [List.getElem?_eq_getElem hi]
 simp [num,hi]
 refine b7 rfl rfl (.inl rfl) hmk0 ?_
 simp [num,hi,hx,tx,s1,s2,s3]
 refine hn _ ?_ ?_ ?_ ?_
 · simp
 · simp only [x9,F6,y4,F4,y5,q7,y0,F5,l7,A6,G7,G8,j6,p5,p6,l1,y6,p9,l3,F3,x8,p8,p7,D4,D5,a0u,a0v,Option.getD_some,Option.getD_none,C1,u0,o5,D1,o4,n8,D3,n9,D2,D0,C9,H2,w6,o2,C7,v8,o1,C6,B9,C8,w5,C4,n7,v7,C5,H4,H3,C0,C2,o0,C3,w7,o3,A9,l9,B8,B7,B6,G9,u9,n0,B4,u6,m8,B3,A7,B5,u7,B1,l8,u5,B2,H1,H0,A8,u4,n6,B0,v6,n5,J2,J1,K5,J3,J7,J5,J4,K4,J6,J8,J9,K2,K3,y9,y8,y7,M0,M1,z7,F7,u1,D9,x1,K7,q8,Q1,M4,L6,N6,N8,N7,Q2,Q3,I4,I6,I5,I7,I8,N3,x3,N2,E1,E2,E3,x4,a0x,F0,x7,P9,Q0,H5,M2,M3,Option.map_some,Option.map_none,E4,x5,w9,o6,D7,D8,H8,H7,O3,O2,J0,F1,F2,I9,N9,O0,I0,o8,I1,o7,M7,E9,E8,l2,N5,O1,I3,M9,N1,N0,x2,A3,A5,A4,k7,N4,Q5,Q4,M5,I2,U4,M6,o9,E6,E7,x6,E5,l0,u2,k9,u3,k8,K6,O4,O5,z1,z6,F9,F8,D6,z7,s1,s2,s3,num]
   simp
   try omega
 · simp [num,si]
 · simp [hi,hx,hx']
   try simp [s1,s2,s3,c1,c2,f9,a1k,num,tx]
theorem b62 (l:List LTarget) (k:Nat) (hk:k < 8388608) (hl:l.length≤1048576):a4v Tryz.prog 95 (.own 0) 162 3 (l.map f9) [.val (num k)] (num ((k+3*l.length:Nat):Int)) ((mkL a1k 3 l.length k).map f9):=by
 refine a3y mixed ok95 rfl ?_
 unfold ir95
 rw [b6]
 simp [d9,i6,j9,b8,d7,V1,PV.nm,num]
 refine j8 (X:=Nat) (fun i=>⟨t6 [(0,.own 900),(1,.val (num ((k+3*i:Nat):Int))),(5,.val (num i))],t8 [(900,.row 162 3 ((mkU a1k 3 l k i).map f9))]⟩) (fun i=>i≤l.length) (fun i=>l.length - i) 0 (Le.mk _ _ ?_ ?_) (Nat.zero_le _) ?_
 · simp [upd,num,PV.kill]
 · simp [a6d]
 · intro i hi
   have hml:=a8z a1k 3 l k i hi
   by_cases h1:i < l.length
   · have hmi:i < (mkU a1k 3 l k i).length:=by omega
     have hset:=a8y a1k 3 l k i h1
     refine b8v ((mkU a1k 3 l k i).map f9) (k+3*i) i (tx (mkU a1k 3 l k i)[i].url) (num (mkU a1k 3 l k i)[i].prio) (num (mkU a1k 3 l k i)[i].weight) (by simpa using hmi) (by omega) (by simp;omega) (by simp [List.getElem?_eq_getElem hmi,f9]) (fun st' q0 q1 q5 qm=>?_)
     simp
     refine LoopNext.mk (i+1) h1 (by omega) (Le.mk _ _ ?_ ?_)
     · simp [q0,q1,q5,num]
       omega
     · rw [← List.map_set,hset] at qm
       simp [qm]
   · have e:i=l.length:=by omega
     subst e
     unfold ir95_l6
     simp [num,hml,a81,a1w]
theorem b5j (l:List LPeer) (hx:bdS 1048576 (a1b 1048576) l):d8 Tryz.prog 117 [.val (.list 6 (l.map G0))] (.ret (.own 0) [⟨164,6,l.map G0⟩]) []:=by
 refine a67 (mk:=fun i=>.own i) mixed ok117 rfl (fun _=>rfl) ?_
 unfold ir117
 rw [b6]
 have hl:l.length≤1048576:=hx.1
 simp [d9,i6,j9,b8,d7,num,G3]
 refine ⟨by omega,by omega,?_⟩
 refine j8 (X:=Nat) (fun i=>⟨t6 [(0,.val (.list 6 (l.map G0))),(3,.own 7),(4,.val (num i))],t8 [(7,.row 164 6 (a23 G0 (.agg [.str (bs []),.int .i64 0,.int .i64 0,.int .i64 0,.int .i64 0,.bool false]) l i))]⟩) (fun i=>i≤l.length) (fun i=>l.length - i) 0 (Le.mk _ _ ?_ ?_) ?_ ?_
 · simp [upd,num,PV.kill]
 · simp [upd,num,bs,a4w]
 · simp
 · intro i hi
   have hlen:=a57 G0 (.agg [.str (bs []),.int .i64 0,.int .i64 0,.int .i64 0,.int .i64 0,.bool false]) l i hi
   simp [num,G3]
   refine f8 (fun h1=>?_) (fun h1=>?_)
   · have e1:(l.map G0)[i]?.getD .nilptr=G0 l[i]:=by simp [List.getElem?_eq_getElem h1]
     have e2:=a8s G0 (.agg [.str (bs []),.int .i64 0,.int .i64 0,.int .i64 0,.int .i64 0,.bool false]) l i h1
     have e3:=a56 G0 (.agg [.str (bs []),.int .i64 0,.int .i64 0,.int .i64 0,.int .i64 0,.bool false]) l i h1
     have e4:(a23 G0 (.agg [.str (bs []),.int .i64 0,.int .i64 0,.int .i64 0,.int .i64 0,.bool false]) l i)[i]'(by omega)=(.agg [.str (bs []),.int .i64 0,.int .i64 0,.int .i64 0,.int .i64 0,.bool false]):=by
      have h9:=e2
      rw [List.getElem?_eq_getElem (show i < (a23 G0 (.agg [.str (bs []),.int .i64 0,.int .i64 0,.int .i64 0,.int .i64 0,.bool false]) l i).length by omega)] at h9
      exact h9
     simp [num,h1,e1,f9,G0,tx,hlen,G3]
     refine b7 rfl rfl (.inl rfl) (d03 l[i] (hx.2 _ (List.getElem_mem h1))) ?_
     simp [num,h1,e1,e2,f9,G0,tx,hlen,G3]
     refine LoopNext.mk (i+1) (by omega) (by omega) (Le.mk _ _ ?_ ?_)
     · simp [num];exact wrap_i64 (by omega) (by omega)
     · rw [← e3]
       simp [f9,G0,num,tx,e4]
   · have e1:i=l.length:=by omega
     subst e1
     simp [num,a58,a1d,PV.pl]
theorem c3x {K:Kx (PExit→St→Prop)} (xs:List RV) (k i:Nat) (a0 a1 a2 a3 a4 a5:RV) (hi:i < xs.length) (hk:k < 549755813888) (hl:xs.length < 1099511627776) (hx:xs[i]?.getD .nilptr=.agg [a0,a1,a2,a3,a4,a5])
 (hn:∀ st':St,st'.env 0=.own 900→st'.env 1=.val (num ((k+6:Nat):Int))→st'.env 5=.val (num ((i+1:Nat):Int))→st'.mem 900=.row 164 6 (xs.set i (G0 (a25 k)))→K.k .normal st') :
 EC Tryz.prog ir96_l6 ⟨t6 [(0,.own 900),(1,.val (num k)),(5,.val (num i))],t8 [(900,.row 164 6 xs)]⟩ (K:=K):=by
 unfold ir96_l6
 have s1:IntKind.i64.wrap ((k:Int)+1)=(k:Int)+1:=wrap_i64 (by omega) (by omega)
 have hmk0:d8 Tryz.prog 94 [.val (.int .i64 ((k:Int)))] (.ret (.val (.str (bs (lmk (k+0))))) []) []:=by
  have h:=a03 (k+0) (by omega)
  exact h
 have s2:IntKind.i64.wrap ((k:Int)+1+1)=(k:Int)+1+1:=wrap_i64 (by omega) (by omega)
 have c1:((k+1:Nat):Int)=(k:Int)+1:=by omega
 have s3:IntKind.i64.wrap ((k:Int)+1+1+1)=(k:Int)+1+1+1:=wrap_i64 (by omega) (by omega)
 have c2:((k+2:Nat):Int)=(k:Int)+1+1:=by omega
 have s4:IntKind.i64.wrap ((k:Int)+1+1+1+1)=(k:Int)+1+1+1+1:=wrap_i64 (by omega) (by omega)
 have c3:((k+3:Nat):Int)=(k:Int)+1+1+1:=by omega
 have s5:IntKind.i64.wrap ((k:Int)+1+1+1+1+1)=(k:Int)+1+1+1+1+1:=wrap_i64 (by omega) (by omega)
 have c4:((k+4:Nat):Int)=(k:Int)+1+1+1+1:=by omega
 have s6:IntKind.i64.wrap ((k:Int)+1+1+1+1+1+1)=(k:Int)+1+1+1+1+1+1:=wrap_i64 (by omega) (by omega)
 have c5:((k+5:Nat):Int)=(k:Int)+1+1+1+1+1:=by omega
 have hm5:(((k:Int)+1+1+1+1+1).tmod 3 == 0)=decide ((k+5) % 3=0):=by
  rw [Int.tmod_eq_emod_of_nonneg (by omega),Bool.eq_iff_iff]
  simp only [beq_iff_eq,decide_eq_true_eq]
  omega
 have si:IntKind.i64.wrap ((i:Int)+1)=(i:Int)+1:=wrap_i64 (by omega) (by omega)
 have hx':xs[i]=.agg [a0,a1,a2,a3,a4,a5]:=by rw [← hx];simp [List.getElem?_eq_getElem hi]
 simp [num,hi]
 refine b7 rfl rfl (.inl rfl) hmk0 ?_
 simp [num,hi,hx,tx,s1,s2,s3,s4,s5,s6]
 refine hn _ ?_ ?_ ?_ ?_
 · simp
 · simp only [x9,F6,y4,F4,y5,q7,y0,F5,l7,A6,G7,G8,j6,p5,p6,l1,y6,p9,l3,F3,x8,p8,p7,D4,D5,a0u,a0v,Option.getD_some,Option.getD_none,C1,u0,o5,D1,o4,n8,D3,n9,D2,D0,C9,H2,w6,o2,C7,v8,o1,C6,B9,C8,w5,C4,n7,v7,C5,H4,H3,C0,C2,o0,C3,w7,o3,A9,l9,B8,B7,B6,G9,u9,n0,B4,u6,m8,B3,A7,B5,u7,B1,l8,u5,B2,H1,H0,A8,u4,n6,B0,v6,n5,J2,J1,K5,J3,J7,J5,J4,K4,J6,J8,J9,K2,K3,y9,y8,y7,M0,M1,z7,F7,u1,D9,x1,K7,q8,Q1,M4,L6,N6,N8,N7,Q2,Q3,I4,I6,I5,I7,I8,N3,x3,N2,E1,E2,E3,x4,a0x,F0,x7,P9,Q0,H5,M2,M3,Option.map_some,Option.map_none,E4,x5,w9,o6,D7,D8,H8,H7,O3,O2,J0,F1,F2,I9,N9,O0,I0,o8,I1,o7,M7,E9,E8,l2,N5,O1,I3,M9,N1,N0,x2,A3,A5,A4,k7,N4,Q5,Q4,M5,I2,U4,M6,o9,E6,E7,x6,E5,l0,u2,k9,u3,k8,K6,O4,O5,z1,z6,F9,F8,D6,z7,s1,s2,s3,s4,s5,s6,num]
   simp
   try omega
 · simp [num,si]
 · simp [hi,hx,hx']
   try simp [s1,s2,s3,s4,s5,s6,c1,c2,c3,c4,c5,hm5,f9,G0,a25,num,tx]
theorem c1r (l:List LPeer) (k:Nat) (hk:k < 8388608) (hl:l.length≤1048576):a4v Tryz.prog 96 (.own 0) 164 6 (l.map G0) [.val (num k)] (num ((k+6*l.length:Nat):Int)) ((mkL a25 6 l.length k).map G0):=by
 refine a3y mixed ok96 rfl ?_
 unfold ir96
 rw [b6]
 simp [d9,i6,j9,b8,d7,V1,PV.nm,num]
 refine j8 (X:=Nat) (fun i=>⟨t6 [(0,.own 900),(1,.val (num ((k+6*i:Nat):Int))),(5,.val (num i))],t8 [(900,.row 164 6 ((mkU a25 6 l k i).map G0))]⟩) (fun i=>i≤l.length) (fun i=>l.length - i) 0 (Le.mk _ _ ?_ ?_) (Nat.zero_le _) ?_
 · simp [upd,num,PV.kill]
 · simp [a6d]
 · intro i hi
   have hml:=a8z a25 6 l k i hi
   by_cases h1:i < l.length
   · have hmi:i < (mkU a25 6 l k i).length:=by omega
     have hset:=a8y a25 6 l k i h1
     refine c3x ((mkU a25 6 l k i).map G0) (k+6*i) i (tx (mkU a25 6 l k i)[i].target.url) (num (mkU a25 6 l k i)[i].target.prio) (num (mkU a25 6 l k i)[i].target.weight) (num (mkU a25 6 l k i)[i].fails) (num (mkU a25 6 l k i)[i].retry) (.bool (mkU a25 6 l k i)[i].gone) (by simpa using hmi) (by omega) (by simp;omega) (by simp [List.getElem?_eq_getElem hmi,f9,G0]) (fun st' q0 q1 q5 qm=>?_)
     simp
     refine LoopNext.mk (i+1) h1 (by omega) (Le.mk _ _ ?_ ?_)
     · simp [q0,q1,q5,num]
       omega
     · rw [← List.map_set,hset] at qm
       simp [qm]
   · have e:i=l.length:=by omega
     subst e
     unfold ir96_l6
     simp [num,hml,a81,a1w]
theorem b2b (l:List LReport) (hx:bdS 1048576 (X3 1048576) l):d8 Tryz.prog 157 [.val (.list 4 (l.map j4))] (.ret (.own 0) [⟨146,4,l.map j4⟩]) []:=by
 refine a67 (mk:=fun i=>.own i) mixed ok157 rfl (fun _=>rfl) ?_
 unfold ir157
 rw [b6]
 have hl:l.length≤1048576:=hx.1
 simp [d9,i6,j9,b8,d7,num,G3]
 refine ⟨by omega,by omega,?_⟩
 refine j8 (X:=Nat) (fun i=>⟨t6 [(0,.val (.list 4 (l.map j4))),(3,.own 7),(4,.val (num i))],t8 [(7,.row 146 4 (a23 j4 (.agg [.int .i64 0,.int .i64 0,.int .i64 0,.str (bs [])]) l i))]⟩) (fun i=>i≤l.length) (fun i=>l.length - i) 0 (Le.mk _ _ ?_ ?_) ?_ ?_
 · simp [upd,num,PV.kill]
 · simp [upd,num,bs,a4w]
 · simp
 · intro i hi
   have hlen:=a57 j4 (.agg [.int .i64 0,.int .i64 0,.int .i64 0,.str (bs [])]) l i hi
   simp [num,G3]
   refine f8 (fun h1=>?_) (fun h1=>?_)
   · have e1:(l.map j4)[i]?.getD .nilptr=j4 l[i]:=by simp [List.getElem?_eq_getElem h1]
     have e2:=a8s j4 (.agg [.int .i64 0,.int .i64 0,.int .i64 0,.str (bs [])]) l i h1
     have e3:=a56 j4 (.agg [.int .i64 0,.int .i64 0,.int .i64 0,.str (bs [])]) l i h1
     have e4:(a23 j4 (.agg [.int .i64 0,.int .i64 0,.int .i64 0,.str (bs [])]) l i)[i]'(by omega)=(.agg [.int .i64 0,.int .i64 0,.int .i64 0,.str (bs [])]):=by
      have h9:=e2
      rw [List.getElem?_eq_getElem (show i < (a23 j4 (.agg [.int .i64 0,.int .i64 0,.int .i64 0,.str (bs [])]) l i).length by omega)] at h9
      exact h9
     simp [num,h1,e1,j4,tx,hlen,G3]
     refine b7 rfl rfl (.inl rfl) (c4w l[i] (hx.2 _ (List.getElem_mem h1))) ?_
     simp [num,h1,e1,e2,j4,tx,hlen,G3]
     refine LoopNext.mk (i+1) (by omega) (by omega) (Le.mk _ _ ?_ ?_)
     · simp [num];exact wrap_i64 (by omega) (by omega)
     · rw [← e3]
       simp [j4,num,tx,e4]
   · have e1:i=l.length:=by omega
     subst e1
     simp [num,a58,a1d,PV.pl]
theorem b8w {K:Kx (PExit→St→Prop)} (xs:List RV) (k i:Nat) (a0 a1 a2 a3:RV) (hi:i < xs.length) (hk:k < 549755813888) (hl:xs.length < 1099511627776) (hx:xs[i]?.getD .nilptr=.agg [a0,a1,a2,a3])
 (hn:∀ st':St,st'.env 0=.own 900→st'.env 1=.val (num ((k+4:Nat):Int))→st'.env 5=.val (num ((i+1:Nat):Int))→st'.mem 900=.row 146 4 (xs.set i (j4 (a05 k)))→K.k .normal st') :
 EC Tryz.prog ir97_l6 ⟨t6 [(0,.own 900),(1,.val (num k)),(5,.val (num i))],t8 [(900,.row 146 4 xs)]⟩ (K:=K):=by
 unfold ir97_l6
 have s1:IntKind.i64.wrap ((k:Int)+1)=(k:Int)+1:=wrap_i64 (by omega) (by omega)
 have s2:IntKind.i64.wrap ((k:Int)+1+1)=(k:Int)+1+1:=wrap_i64 (by omega) (by omega)
 have c1:((k+1:Nat):Int)=(k:Int)+1:=by omega
 have s3:IntKind.i64.wrap ((k:Int)+1+1+1)=(k:Int)+1+1+1:=wrap_i64 (by omega) (by omega)
 have c2:((k+2:Nat):Int)=(k:Int)+1+1:=by omega
 have s4:IntKind.i64.wrap ((k:Int)+1+1+1+1)=(k:Int)+1+1+1+1:=wrap_i64 (by omega) (by omega)
 have c3:((k+3:Nat):Int)=(k:Int)+1+1+1:=by omega
 have hmk3:d8 Tryz.prog 94 [.val (.int .i64 ((k:Int)+1+1+1))] (.ret (.val (.str (bs (lmk (k+3))))) []) []:=by
  have h:=a03 (k+3) (by omega)
  unfold num tx at h
  rwa [c3] at h
 have si:IntKind.i64.wrap ((i:Int)+1)=(i:Int)+1:=wrap_i64 (by omega) (by omega)
 have hx':xs[i]=.agg [a0,a1,a2,a3]:=by rw [← hx];simp [List.getElem?_eq_getElem hi]
 simp [num,hi,hx,s1,s2,s3,s4]
 refine b7 rfl rfl (.inl rfl) hmk3 ?_
 simp [num,hi,hx,tx,s1,s2,s3,s4]
 refine hn _ ?_ ?_ ?_ ?_
 · simp
 · simp only [x9,F6,y4,F4,y5,q7,y0,F5,l7,A6,G7,G8,j6,p5,p6,l1,y6,p9,l3,F3,x8,p8,p7,D4,D5,a0u,a0v,Option.getD_some,Option.getD_none,C1,u0,o5,D1,o4,n8,D3,n9,D2,D0,C9,H2,w6,o2,C7,v8,o1,C6,B9,C8,w5,C4,n7,v7,C5,H4,H3,C0,C2,o0,C3,w7,o3,A9,l9,B8,B7,B6,G9,u9,n0,B4,u6,m8,B3,A7,B5,u7,B1,l8,u5,B2,H1,H0,A8,u4,n6,B0,v6,n5,J2,J1,K5,J3,J7,J5,J4,K4,J6,J8,J9,K2,K3,y9,y8,y7,M0,M1,z7,F7,u1,D9,x1,K7,q8,Q1,M4,L6,N6,N8,N7,Q2,Q3,I4,I6,I5,I7,I8,N3,x3,N2,E1,E2,E3,x4,a0x,F0,x7,P9,Q0,H5,M2,M3,Option.map_some,Option.map_none,E4,x5,w9,o6,D7,D8,H8,H7,O3,O2,J0,F1,F2,I9,N9,O0,I0,o8,I1,o7,M7,E9,E8,l2,N5,O1,I3,M9,N1,N0,x2,A3,A5,A4,k7,N4,Q5,Q4,M5,I2,U4,M6,o9,E6,E7,x6,E5,l0,u2,k9,u3,k8,K6,O4,O5,z1,z6,F9,F8,D6,z7,s1,s2,s3,s4,num]
   simp
   try omega
 · simp [num,si]
 · simp [hi,hx,hx']
   try simp [s1,s2,s3,s4,c1,c2,c3,j4,a05,num,tx]
theorem b63 (l:List LReport) (k:Nat) (hk:k < 8388608) (hl:l.length≤1048576):a4v Tryz.prog 97 (.own 0) 146 4 (l.map j4) [.val (num k)] (num ((k+4*l.length:Nat):Int)) ((mkL a05 4 l.length k).map j4):=by
 refine a3y mixed ok97 rfl ?_
 unfold ir97
 rw [b6]
 simp [d9,i6,j9,b8,d7,V1,PV.nm,num]
 refine j8 (X:=Nat) (fun i=>⟨t6 [(0,.own 900),(1,.val (num ((k+4*i:Nat):Int))),(5,.val (num i))],t8 [(900,.row 146 4 ((mkU a05 4 l k i).map j4))]⟩) (fun i=>i≤l.length) (fun i=>l.length - i) 0 (Le.mk _ _ ?_ ?_) (Nat.zero_le _) ?_
 · simp [upd,num,PV.kill]
 · simp [a6d]
 · intro i hi
   have hml:=a8z a05 4 l k i hi
   by_cases h1:i < l.length
   · have hmi:i < (mkU a05 4 l k i).length:=by omega
     have hset:=a8y a05 4 l k i h1
     refine b8w ((mkU a05 4 l k i).map j4) (k+4*i) i (num (mkU a05 4 l k i)[i].id) (num (mkU a05 4 l k i)[i].born) (num (mkU a05 4 l k i)[i].tries) (tx (mkU a05 4 l k i)[i].body) (by simpa using hmi) (by omega) (by simp;omega) (by simp [List.getElem?_eq_getElem hmi,j4]) (fun st' q0 q1 q5 qm=>?_)
     simp
     refine LoopNext.mk (i+1) h1 (by omega) (Le.mk _ _ ?_ ?_)
     · simp [q0,q1,q5,num]
       omega
     · rw [← List.map_set,hset] at qm
       simp [qm]
   · have e:i=l.length:=by omega
     subst e
     unfold ir97_l6
     simp [num,hml,a81,a1w]
theorem b3m (l:List LEntry) (hx:l.length≤1048576):d8 Tryz.prog 39 [.val (.list 3 (l.map A1))] (.ret (.own 0) [⟨83,3,l.map A1⟩]) []:=by
 refine a67 (mk:=fun i=>.own i) mixed ok39 rfl (fun _=>rfl) ?_
 unfold ir39
 rw [b6]
 have hl:l.length≤1048576:=hx
 simp [d9,i6,j9,b8,d7,num,G3]
 refine ⟨by omega,by omega,?_⟩
 refine j8 (X:=Nat) (fun i=>⟨t6 [(0,.val (.list 3 (l.map A1))),(3,.own 7),(4,.val (num i))],t8 [(7,.row 83 3 (a23 A1 (.agg [.int .i64 0,.int .i64 0,.int .i64 0]) l i))]⟩) (fun i=>i≤l.length) (fun i=>l.length - i) 0 (Le.mk _ _ ?_ ?_) ?_ ?_
 · simp [upd,num,PV.kill]
 · simp [upd,num,bs,a4w]
 · simp
 · intro i hi
   have hlen:=a57 A1 (.agg [.int .i64 0,.int .i64 0,.int .i64 0]) l i hi
   simp [num,G3]
   refine f8 (fun h1=>?_) (fun h1=>?_)
   · have e1:(l.map A1)[i]?.getD .nilptr=A1 l[i]:=by simp [List.getElem?_eq_getElem h1]
     have e2:=a8s A1 (.agg [.int .i64 0,.int .i64 0,.int .i64 0]) l i h1
     have e3:=a56 A1 (.agg [.int .i64 0,.int .i64 0,.int .i64 0]) l i h1
     have e4:(a23 A1 (.agg [.int .i64 0,.int .i64 0,.int .i64 0]) l i)[i]'(by omega)=(.agg [.int .i64 0,.int .i64 0,.int .i64 0]):=by
      have h9:=e2
      rw [List.getElem?_eq_getElem (show i < (a23 A1 (.agg [.int .i64 0,.int .i64 0,.int .i64 0]) l i).length by omega)] at h9
      exact h9
     simp [num,h1,e1,A1,tx,hlen,G3]
     refine b7 rfl rfl (.inl rfl) (c77 l[i] trivial) ?_
     simp [num,h1,e1,e2,A1,tx,hlen,G3]
     refine LoopNext.mk (i+1) (by omega) (by omega) (Le.mk _ _ ?_ ?_)
     · simp [num];exact wrap_i64 (by omega) (by omega)
     · rw [← e3]
       simp [A1,num,tx,e4]
   · have e1:i=l.length:=by omega
     subst e1
     simp [num,a58,a1d,PV.pl]
theorem c0z {K:Kx (PExit→St→Prop)} (xs:List RV) (k i:Nat) (a0 a1 a2:RV) (hi:i < xs.length) (hk:k < 549755813888) (hl:xs.length < 1099511627776) (hx:xs[i]?.getD .nilptr=.agg [a0,a1,a2])
 (hn:∀ st':St,st'.env 0=.own 900→st'.env 1=.val (num ((k+3:Nat):Int))→st'.env 5=.val (num ((i+1:Nat):Int))→st'.mem 900=.row 83 3 (xs.set i (A1 (a27 k)))→K.k .normal st') :
 EC Tryz.prog ir20_l6 ⟨t6 [(0,.own 900),(1,.val (num k)),(5,.val (num i))],t8 [(900,.row 83 3 xs)]⟩ (K:=K):=by
 unfold ir20_l6
 have s1:IntKind.i64.wrap ((k:Int)+1)=(k:Int)+1:=wrap_i64 (by omega) (by omega)
 have s2:IntKind.i64.wrap ((k:Int)+1+1)=(k:Int)+1+1:=wrap_i64 (by omega) (by omega)
 have c1:((k+1:Nat):Int)=(k:Int)+1:=by omega
 have s3:IntKind.i64.wrap ((k:Int)+1+1+1)=(k:Int)+1+1+1:=wrap_i64 (by omega) (by omega)
 have c2:((k+2:Nat):Int)=(k:Int)+1+1:=by omega
 have si:IntKind.i64.wrap ((i:Int)+1)=(i:Int)+1:=wrap_i64 (by omega) (by omega)
 have hx':xs[i]=.agg [a0,a1,a2]:=by rw [← hx];simp [List.getElem?_eq_getElem hi]
 simp [num,hi,hx,s1,s2,s3]
 refine hn _ ?_ ?_ ?_ ?_
 · simp
 · simp only [x9,F6,y4,F4,y5,q7,y0,F5,l7,A6,G7,G8,j6,p5,p6,l1,y6,p9,l3,F3,x8,p8,p7,D4,D5,a0u,a0v,Option.getD_some,Option.getD_none,C1,u0,o5,D1,o4,n8,D3,n9,D2,D0,C9,H2,w6,o2,C7,v8,o1,C6,B9,C8,w5,C4,n7,v7,C5,H4,H3,C0,C2,o0,C3,w7,o3,A9,l9,B8,B7,B6,G9,u9,n0,B4,u6,m8,B3,A7,B5,u7,B1,l8,u5,B2,H1,H0,A8,u4,n6,B0,v6,n5,J2,J1,K5,J3,J7,J5,J4,K4,J6,J8,J9,K2,K3,y9,y8,y7,M0,M1,z7,F7,u1,D9,x1,K7,q8,Q1,M4,L6,N6,N8,N7,Q2,Q3,I4,I6,I5,I7,I8,N3,x3,N2,E1,E2,E3,x4,a0x,F0,x7,P9,Q0,H5,M2,M3,Option.map_some,Option.map_none,E4,x5,w9,o6,D7,D8,H8,H7,O3,O2,J0,F1,F2,I9,N9,O0,I0,o8,I1,o7,M7,E9,E8,l2,N5,O1,I3,M9,N1,N0,x2,A3,A5,A4,k7,N4,Q5,Q4,M5,I2,U4,M6,o9,E6,E7,x6,E5,l0,u2,k9,u3,k8,K6,O4,O5,z1,z6,F9,F8,D6,z7,s1,s2,s3,num]
   simp
   try omega
 · simp [num,si]
 · simp [hi,hx,hx']
   try simp [s1,s2,s3,c1,c2,A1,a27,num,tx]
theorem b9i (l:List LEntry) (k:Nat) (hk:k < 8388608) (hl:l.length≤1048576):a4v Tryz.prog 20 (.own 0) 83 3 (l.map A1) [.val (num k)] (num ((k+3*l.length:Nat):Int)) ((mkL a27 3 l.length k).map A1):=by
 refine a3y mixed ok20 rfl ?_
 unfold ir20
 rw [b6]
 simp [d9,i6,j9,b8,d7,V1,PV.nm,num]
 refine j8 (X:=Nat) (fun i=>⟨t6 [(0,.own 900),(1,.val (num ((k+3*i:Nat):Int))),(5,.val (num i))],t8 [(900,.row 83 3 ((mkU a27 3 l k i).map A1))]⟩) (fun i=>i≤l.length) (fun i=>l.length - i) 0 (Le.mk _ _ ?_ ?_) (Nat.zero_le _) ?_
 · simp [upd,num,PV.kill]
 · simp [a6d]
 · intro i hi
   have hml:=a8z a27 3 l k i hi
   by_cases h1:i < l.length
   · have hmi:i < (mkU a27 3 l k i).length:=by omega
     have hset:=a8y a27 3 l k i h1
     refine c0z ((mkU a27 3 l k i).map A1) (k+3*i) i (num (mkU a27 3 l k i)[i].kind) (num (mkU a27 3 l k i)[i].id) (num (mkU a27 3 l k i)[i].at_) (by simpa using hmi) (by omega) (by simp;omega) (by simp [List.getElem?_eq_getElem hmi,A1]) (fun st' q0 q1 q5 qm=>?_)
     simp
     refine LoopNext.mk (i+1) h1 (by omega) (Le.mk _ _ ?_ ?_)
     · simp [q0,q1,q5,num]
       omega
     · rw [← List.map_set,hset] at qm
       simp [qm]
   · have e:i=l.length:=by omega
     subst e
     unfold ir20_l6
     simp [num,hml,a81,a1w]
end Go.Proofs
end
section
namespace Go.Proofs
open Go.PW Go.KP
attribute [local simp] RV.cells RV.one PV.cells PV.solid PV.one G3 i7 L8 L5 RV.ofCells elems PV.killL
variable [GF]
theorem c4t (n k:Nat) (hk:k < 8388608) (hl:n≤1048576):d8 Tryz.prog 26 [.val (.list 1 ((mkL a26 1 n k).map num)),.val (num k)] (.ret (.val (num ((k+1*n:Nat):Int))) []) []:=by
 refine f6 mixed ok26 rfl (fun _=>rfl) ?_
 unfold ir26
 rw [b6]
 have hlen:=a1w a26 1 n k
 simp [d9,i6,j9,b8,d7,num]
 refine j8 (X:=Nat) (fun i=>⟨t6 [(0,.val (.list 1 ((mkL a26 1 n k).map num))),(1,.val (num ((k+1*i:Nat):Int))),(5,.val (num i))],t8 []⟩) (fun i=>i≤n) (fun i=>n - i) 0 (Le.mk _ _ ?_ ?_) (Nat.zero_le _) ?_
 · simp [upd,num,PV.kill]
 · simp
 · intro i hi
   unfold ir26_l6
   by_cases h1:i < n
   · have hi':i < (mkL a26 1 n k).length:=by omega
     have hat:(mkL a26 1 n k)[i]=a26 (k+1*i):=mkL_at h1
     have e1:((mkL a26 1 n k).map num)[i]?.getD .nilptr=num (a26 (k+1*i)):=by simp [List.getElem?_eq_getElem hi',hat]
     generalize hj:k+1*i=j at *
     have hjj:j < 1099511627776:=by omega
     have s1:IntKind.i64.wrap ((j:Int)+1)=((j+1:Nat):Int):=by rw [wrap_i64 (by omega) (by omega)];omega
     have si:IntKind.i64.wrap ((i:Int)+1)=((i+1:Nat):Int):=by rw [wrap_i64 (by omega) (by omega)];omega
     have hat2:a26 j=(j:Int):=rfl
     simp [num,a1w,h1,e1,hat,hat2,tx,s1,si]
     refine LoopNext.mk (i+1) h1 (by omega) (Le.mk _ _ ?_ ?_)
     · simp [num,s1,si]
       omega
     · simp
   · have e:i=n:=by omega
     subst e
     simp [num,a1w]
end Go.Proofs
end
