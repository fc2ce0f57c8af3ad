/- Eg: merged out of KIu, KIv, KIx, KIy. -/
import Derived.Test.YtgdapgcjmfeocaaGreatDoorCa
import Derived.Test.YtgdapgcjmfeocaaGreatDoorAc
import Derived.Test.YtgdapgcjmfeocaaGreatDoorBa
import Derived.Test.YtgdapgcjmfeocaaGreatDoorEb
import Derived.Test.YtgdapgcjmfeocaaGreatDoorEc
import Derived.Test.YtgdapgcjmfeocaaGreatDoorCc
set_option linter.unusedSectionVars false
set_option linter.unusedSimpArgs false
set_option linter.unusedVariables false
set_option maxRecDepth 100000
section
namespace Go.Proofs
open Go.PW Go.KP
attribute [local simp] RV.cells RV.one PV.cells PV.solid PV.one t8 f9 H0 A5 RV.ofCells elems PV.killL
variable [GF]
theorem a6i (l:List LReport) (g:Nat) (c0_0 c0_1 c0_2 c0_3 c0_4 c0_5 c0_6 c0_7:RV) (p:LReport→Bool) (hl:l.length < 1099511627776) (hg:fnB Tryz.prog g=true)
 (hp:∀ x∈l,d8 Tryz.prog g [.val (j5 x),.box [c0_0,c0_1,c0_2,c0_3,c0_4,c0_5,c0_6,c0_7]] (.ret (.val (.bool (p x))) []) [[c0_0,c0_1,c0_2,c0_3,c0_4,c0_5,c0_6,c0_7]]) :
 d8 Tryz.prog 174 [.val (.list 4 (l.map j5)),.fn g [.box [c0_0,c0_1,c0_2,c0_3,c0_4,c0_5,c0_6,c0_7]]] (.ret (.val (num (a0j l p))) []) [[c0_0,c0_1,c0_2,c0_3,c0_4,c0_5,c0_6,c0_7]]:=by
 refine T2 mixed ok174 rfl (fun _=>rfl) ?_
 unfold ir174
 rw [b7]
 simp [d9,i6,j6,b8,d7,j6,i6]
 refine j7 (X:=Nat) (fun i=>⟨l8 [(0,.val (.list 4 (l.map j5))),(1,.fn g [.ptr 900 0]),(7,.val (num l.length)),(8,.val (num i))],l9 [(900,.box [.val c0_0,.val c0_1,.val c0_2,.val c0_3,.val c0_4,.val c0_5,.val c0_6,.val c0_7])]⟩) (fun i=>i≤l.length∧∀ k (hk:k < i) (hk':k < l.length),p l[k]=false) (fun i=>l.length - i) 0 (Le.mk _ _ ?_ ?_) ?_ ?_
 · simp [upd,num]
 · simp
 · simp
 · rintro i ⟨hi,hne⟩
   simp [num]
   refine f6 (fun h1=>?_) (fun h1=>?_)
   · have e1:(l.map j5)[i]?.getD .nilptr=j5 l[i]:=by simp [List.getElem?_eq_getElem h1]
     simp [num,h1,e1,j5,tx,num,hg]
     refine S3 (ids:=[900]) rfl rfl (by simp) (by decide) (by simp [a11,y5,G3,y7,G1,y8,t6,y6,G2,m8,B2,H6,H7,k6,p9,q7,l4,y9,s8,l6,G0,y4,q9,q8,E1,E3,a04,a05,Option.getD_some,Option.getD_none,C7,u2,o9,D7,o8,o2,D9,o3,D8,D6,D5,I1,w9,o6,D3,w7,o5,D2,C5,D4,w8,D0,o1,w6,D1,I3,I2,C6,C8,o4,C9,x1,o7,B5,n5,C4,C3,C2,H8,v8,n7,C0,v6,n6,B9,B3,C1,v7,B7,n0,u9,B8,I0,H9,B4,u7,n9,B6,w5,n8,K2,J9,L5,K3,K7,K5,K4,L4,K6,K8,K9,L2,L3,z7,z6,z1,M8,M9,A8,G4,u3,E7,x3,L7,t7,R5,N2,M0,O4,O6,O5,R6,R7,J2,J4,J3,J5,J6,O1,x6,O0,E8,E9,F0,x7,a09,F7,y0,R3,R4,I4,N0,N1,Option.map_some,Option.map_none,F1,x8,x2,p5,E5,E6,I6,I5,P1,P0,J8,F8,F9,J7,O7,O8,I7,p7,I8,p6,N6,F6,F5,l5,O3,O9,J1,N7,N9,N8,x5,A9,B1,B0,l0,O2,S0,R9,N3,I9,V3,N4,p8,F3,F4,x9,F2,l3,u5,l2,u6,l1,L6,P2,P3,z8,A0,G6,G5,E4]) rfl (hp l[i] (List.getElem_mem h1)) ?_
     cases hpi:p l[i] with
     | true=>
      simp [Q8,P9]
      rw [X9 h1 hpi (fun k hk=>hne k hk (by omega))];rfl
     | false=>
      simp
      refine LoopNext.mk (i+1) ⟨by omega,fun k hk hk'=>?_⟩ (by omega) (Le.mk _ _ ?_ ?_)
      · by_cases e:k=i
        · subst e;exact hpi
        · exact hne k (by omega) hk'
      · simp [num];exact wrap_i64 (by omega) (by omega)
      · simp
   · have e:i=l.length:=by omega
     subst e
     simp [num,Q8,P9]
     rw [W3 (fun k hk=>hne k hk hk)]
theorem a4y (l:List LReport) (g:Nat) (c0_0 c0_1 c0_2 c0_3 c0_4 c0_5 c0_6 c0_7:RV) (p:LReport→Bool) (hl:l.length < 1099511627776) (hg:fnB Tryz.prog g=true)
 (hp:∀ x∈l,d8 Tryz.prog g [.val (j5 x),.box [c0_0,c0_1,c0_2,c0_3,c0_4,c0_5,c0_6,c0_7]] (.ret (.val (.bool (p x))) []) [[c0_0,c0_1,c0_2,c0_3,c0_4,c0_5,c0_6,c0_7]]) :
 d8 Tryz.prog 131 [.val (.list 4 (l.map j5)),.fn g [.box [c0_0,c0_1,c0_2,c0_3,c0_4,c0_5,c0_6,c0_7]]] (.ret (.val (.bool (l.any p))) []) [[c0_0,c0_1,c0_2,c0_3,c0_4,c0_5,c0_6,c0_7]]:=by
 refine T2 mixed ok131 rfl (fun _=>rfl) ?_
 unfold ir131
 rw [b7]
 simp [d9,i6,j6,b8,d7,j6,i6]
 refine S3 (ids:=[900]) rfl rfl (by simp) (by decide) (by simp [a11,y5,G3,y7,G1,y8,t6,y6,G2,m8,B2,H6,H7,k6,p9,q7,l4,y9,s8,l6,G0,y4,q9,q8,E1,E3,a04,a05,Option.getD_some,Option.getD_none,C7,u2,o9,D7,o8,o2,D9,o3,D8,D6,D5,I1,w9,o6,D3,w7,o5,D2,C5,D4,w8,D0,o1,w6,D1,I3,I2,C6,C8,o4,C9,x1,o7,B5,n5,C4,C3,C2,H8,v8,n7,C0,v6,n6,B9,B3,C1,v7,B7,n0,u9,B8,I0,H9,B4,u7,n9,B6,w5,n8,K2,J9,L5,K3,K7,K5,K4,L4,K6,K8,K9,L2,L3,z7,z6,z1,M8,M9,A8,G4,u3,E7,x3,L7,t7,R5,N2,M0,O4,O6,O5,R6,R7,J2,J4,J3,J5,J6,O1,x6,O0,E8,E9,F0,x7,a09,F7,y0,R3,R4,I4,N0,N1,Option.map_some,Option.map_none,F1,x8,x2,p5,E5,E6,I6,I5,P1,P0,J8,F8,F9,J7,O7,O8,I7,p7,I8,p6,N6,F6,F5,l5,O3,O9,J1,N7,N9,N8,x5,A9,B1,B0,l0,O2,S0,R9,N3,I9,V3,N4,p8,F3,F4,x9,F2,l3,u5,l2,u6,l1,L6,P2,P3,z8,A0,G6,G5,E4]) rfl (a6i l g c0_0 c0_1 c0_2 c0_3 c0_4 c0_5 c0_6 c0_7 p hl hg hp) ?_
 simp [num,Q8,P9]
 exact a4b l p
theorem a5w (l:List LChannel) (g:Nat) (c0_0:RV) (p:LChannel→Bool) (hl:l.length < 1099511627776) (hg:fnB Tryz.prog g=true)
 (hp:∀ x∈l,d8 Tryz.prog g [.val (i8 x),.box [c0_0]] (.ret (.val (.bool (p x))) []) [[c0_0]]) :
 d8 Tryz.prog 133 [.val (.list 6 (l.map i8)),.fn g [.box [c0_0]]] (.ret (.val (num (a0j l p))) []) [[c0_0]]:=by
 refine T2 mixed ok133 rfl (fun _=>rfl) ?_
 unfold ir133
 rw [b7]
 simp [d9,i6,j6,b8,d7,j6,i6]
 refine j7 (X:=Nat) (fun i=>⟨l8 [(0,.val (.list 6 (l.map i8))),(1,.fn g [.ptr 900 0]),(7,.val (num l.length)),(8,.val (num i))],l9 [(900,.box [.val c0_0])]⟩) (fun i=>i≤l.length∧∀ k (hk:k < i) (hk':k < l.length),p l[k]=false) (fun i=>l.length - i) 0 (Le.mk _ _ ?_ ?_) ?_ ?_
 · simp [upd,num]
 · simp
 · simp
 · rintro i ⟨hi,hne⟩
   simp [num]
   refine f6 (fun h1=>?_) (fun h1=>?_)
   · have e1:(l.map i8)[i]?.getD .nilptr=i8 l[i]:=by simp [List.getElem?_eq_getElem h1]
     simp [num,h1,e1,H1,A4,i8,tx,num,hg]
     refine S3 (ids:=[900]) rfl rfl (by simp) (by decide) (by simp [a11,y5,G3,y7,G1,y8,t6,y6,G2,m8,B2,H6,H7,k6,p9,q7,l4,y9,s8,l6,G0,y4,q9,q8,E1,E3,a04,a05,Option.getD_some,Option.getD_none,C7,u2,o9,D7,o8,o2,D9,o3,D8,D6,D5,I1,w9,o6,D3,w7,o5,D2,C5,D4,w8,D0,o1,w6,D1,I3,I2,C6,C8,o4,C9,x1,o7,B5,n5,C4,C3,C2,H8,v8,n7,C0,v6,n6,B9,B3,C1,v7,B7,n0,u9,B8,I0,H9,B4,u7,n9,B6,w5,n8,K2,J9,L5,K3,K7,K5,K4,L4,K6,K8,K9,L2,L3,z7,z6,z1,M8,M9,A8,G4,u3,E7,x3,L7,t7,R5,N2,M0,O4,O6,O5,R6,R7,J2,J4,J3,J5,J6,O1,x6,O0,E8,E9,F0,x7,a09,F7,y0,R3,R4,I4,N0,N1,Option.map_some,Option.map_none,F1,x8,x2,p5,E5,E6,I6,I5,P1,P0,J8,F8,F9,J7,O7,O8,I7,p7,I8,p6,N6,F6,F5,l5,O3,O9,J1,N7,N9,N8,x5,A9,B1,B0,l0,O2,S0,R9,N3,I9,V3,N4,p8,F3,F4,x9,F2,l3,u5,l2,u6,l1,L6,P2,P3,z8,A0,G6,G5,E4]) rfl (hp l[i] (List.getElem_mem h1)) ?_
     cases hpi:p l[i] with
     | true=>
      simp [Q8,P9]
      rw [X9 h1 hpi (fun k hk=>hne k hk (by omega))];rfl
     | false=>
      simp
      refine LoopNext.mk (i+1) ⟨by omega,fun k hk hk'=>?_⟩ (by omega) (Le.mk _ _ ?_ ?_)
      · by_cases e:k=i
        · subst e;exact hpi
        · exact hne k (by omega) hk'
      · simp [num];exact wrap_i64 (by omega) (by omega)
      · simp
   · have e:i=l.length:=by omega
     subst e
     simp [num,Q8,P9]
     rw [W3 (fun k hk=>hne k hk hk)]
theorem a8b (l:List LWire) (g:Nat) (c0_0 c0_1 c0_2 c0_3 c0_4 c0_5 c0_6 c0_7:RV) (p:LWire→Bool) (hl:l.length < 1099511627776) (hg:fnB Tryz.prog g=true)
 (hp:∀ x∈l,d8 Tryz.prog g [.val (u4 x),.box [c0_0,c0_1,c0_2,c0_3,c0_4,c0_5,c0_6,c0_7]] (.ret (.val (.bool (p x))) []) [[c0_0,c0_1,c0_2,c0_3,c0_4,c0_5,c0_6,c0_7]]) :
 d8 Tryz.prog 135 [.val (.list 7 (l.map u4)),.fn g [.box [c0_0,c0_1,c0_2,c0_3,c0_4,c0_5,c0_6,c0_7]]] (.ret (.val (num (a0j l p))) []) [[c0_0,c0_1,c0_2,c0_3,c0_4,c0_5,c0_6,c0_7]]:=by
 refine T2 mixed ok135 rfl (fun _=>rfl) ?_
 unfold ir135
 rw [b7]
 simp [d9,i6,j6,b8,d7,j6,i6]
 refine j7 (X:=Nat) (fun i=>⟨l8 [(0,.val (.list 7 (l.map u4))),(1,.fn g [.ptr 900 0]),(7,.val (num l.length)),(8,.val (num i))],l9 [(900,.box [.val c0_0,.val c0_1,.val c0_2,.val c0_3,.val c0_4,.val c0_5,.val c0_6,.val c0_7])]⟩) (fun i=>i≤l.length∧∀ k (hk:k < i) (hk':k < l.length),p l[k]=false) (fun i=>l.length - i) 0 (Le.mk _ _ ?_ ?_) ?_ ?_
 · simp [upd,num]
 · simp
 · simp
 · rintro i ⟨hi,hne⟩
   simp [num]
   refine f6 (fun h1=>?_) (fun h1=>?_)
   · have e1:(l.map u4)[i]?.getD .nilptr=u4 l[i]:=by simp [List.getElem?_eq_getElem h1]
     simp [num,h1,e1,u4,tx,num,hg]
     refine S3 (ids:=[900]) rfl rfl (by simp) (by decide) (by simp [a11,y5,G3,y7,G1,y8,t6,y6,G2,m8,B2,H6,H7,k6,p9,q7,l4,y9,s8,l6,G0,y4,q9,q8,E1,E3,a04,a05,Option.getD_some,Option.getD_none,C7,u2,o9,D7,o8,o2,D9,o3,D8,D6,D5,I1,w9,o6,D3,w7,o5,D2,C5,D4,w8,D0,o1,w6,D1,I3,I2,C6,C8,o4,C9,x1,o7,B5,n5,C4,C3,C2,H8,v8,n7,C0,v6,n6,B9,B3,C1,v7,B7,n0,u9,B8,I0,H9,B4,u7,n9,B6,w5,n8,K2,J9,L5,K3,K7,K5,K4,L4,K6,K8,K9,L2,L3,z7,z6,z1,M8,M9,A8,G4,u3,E7,x3,L7,t7,R5,N2,M0,O4,O6,O5,R6,R7,J2,J4,J3,J5,J6,O1,x6,O0,E8,E9,F0,x7,a09,F7,y0,R3,R4,I4,N0,N1,Option.map_some,Option.map_none,F1,x8,x2,p5,E5,E6,I6,I5,P1,P0,J8,F8,F9,J7,O7,O8,I7,p7,I8,p6,N6,F6,F5,l5,O3,O9,J1,N7,N9,N8,x5,A9,B1,B0,l0,O2,S0,R9,N3,I9,V3,N4,p8,F3,F4,x9,F2,l3,u5,l2,u6,l1,L6,P2,P3,z8,A0,G6,G5,E4]) rfl (hp l[i] (List.getElem_mem h1)) ?_
     cases hpi:p l[i] with
     | true=>
      simp [Q8,P9]
      rw [X9 h1 hpi (fun k hk=>hne k hk (by omega))];rfl
     | false=>
      simp
      refine LoopNext.mk (i+1) ⟨by omega,fun k hk hk'=>?_⟩ (by omega) (Le.mk _ _ ?_ ?_)
      · by_cases e:k=i
        · subst e;exact hpi
        · exact hne k (by omega) hk'
      · simp [num];exact wrap_i64 (by omega) (by omega)
      · simp
   · have e:i=l.length:=by omega
     subst e
     simp [num,Q8,P9]
     rw [W3 (fun k hk=>hne k hk hk)]
theorem a5x (l:List LWire) (g:Nat) (c0_0 c0_1 c0_2 c0_3 c0_4 c0_5 c0_6 c0_7:RV) (p:LWire→Bool) (hl:l.length < 1099511627776) (hg:fnB Tryz.prog g=true)
 (hp:∀ x∈l,d8 Tryz.prog g [.val (u4 x),.box [c0_0,c0_1,c0_2,c0_3,c0_4,c0_5,c0_6,c0_7]] (.ret (.val (.bool (p x))) []) [[c0_0,c0_1,c0_2,c0_3,c0_4,c0_5,c0_6,c0_7]]) :
 d8 Tryz.prog 84 [.val (.list 7 (l.map u4)),.fn g [.box [c0_0,c0_1,c0_2,c0_3,c0_4,c0_5,c0_6,c0_7]]] (.ret (.val (.bool (l.any p))) []) [[c0_0,c0_1,c0_2,c0_3,c0_4,c0_5,c0_6,c0_7]]:=by
 refine T2 mixed ok84 rfl (fun _=>rfl) ?_
 unfold ir84
 rw [b7]
 simp [d9,i6,j6,b8,d7,j6,i6]
 refine S3 (ids:=[900]) rfl rfl (by simp) (by decide) (by simp [a11,y5,G3,y7,G1,y8,t6,y6,G2,m8,B2,H6,H7,k6,p9,q7,l4,y9,s8,l6,G0,y4,q9,q8,E1,E3,a04,a05,Option.getD_some,Option.getD_none,C7,u2,o9,D7,o8,o2,D9,o3,D8,D6,D5,I1,w9,o6,D3,w7,o5,D2,C5,D4,w8,D0,o1,w6,D1,I3,I2,C6,C8,o4,C9,x1,o7,B5,n5,C4,C3,C2,H8,v8,n7,C0,v6,n6,B9,B3,C1,v7,B7,n0,u9,B8,I0,H9,B4,u7,n9,B6,w5,n8,K2,J9,L5,K3,K7,K5,K4,L4,K6,K8,K9,L2,L3,z7,z6,z1,M8,M9,A8,G4,u3,E7,x3,L7,t7,R5,N2,M0,O4,O6,O5,R6,R7,J2,J4,J3,J5,J6,O1,x6,O0,E8,E9,F0,x7,a09,F7,y0,R3,R4,I4,N0,N1,Option.map_some,Option.map_none,F1,x8,x2,p5,E5,E6,I6,I5,P1,P0,J8,F8,F9,J7,O7,O8,I7,p7,I8,p6,N6,F6,F5,l5,O3,O9,J1,N7,N9,N8,x5,A9,B1,B0,l0,O2,S0,R9,N3,I9,V3,N4,p8,F3,F4,x9,F2,l3,u5,l2,u6,l1,L6,P2,P3,z8,A0,G6,G5,E4]) rfl (a8b l g c0_0 c0_1 c0_2 c0_3 c0_4 c0_5 c0_6 c0_7 p hl hg hp) ?_
 simp [num,Q8,P9]
 exact a4b l p
end Go.Proofs
end
section
namespace Go.Proofs
open Go.PW Go.KP
attribute [local simp] RV.cells RV.one PV.cells PV.solid PV.one t8 f9 H0 A5 RV.ofCells elems PV.killL
variable [GH]
theorem b8i (t:Tx):d8 Tryz.prog 173 [.val (tx t)] (.ret (.val (.bool (decide (1≤t.length∧t.length≤8000)))) []) []:=by
 have q:(1≤t.length∧t.length≤8000)↔((1:Int)≤t.length∧(t.length:Int)≤8000):=by omega
 have e:decide (1≤t.length∧t.length≤8000)=decide ((1:Int)≤t.length∧(t.length:Int)≤8000):=decide_eq_decide.2 q
 rw [e]
 have h:=P6 t.length 1 8000
 refine f5 mixed ok173 rfl (fun _=>rfl) ?_
 unfold ir173
 rw [b7]
 simp [d9,i6,j6,b8,d7,tx,b9,num]
 refine b6 rfl rfl (.inl rfl) h ?_
 simp
theorem b32 (r:LReport) (b1 b2 b3 b4:Bool) (h1:d8 Tryz.prog 60 [.val (num r.id),.val (num 1),.val (num 1000000)] (.ret (.val (.bool b1)) []) []) (h2:d8 Tryz.prog 60 [.val (num r.born),.val (num 0),.val (num 1000000)] (.ret (.val (.bool b2)) []) [])
 (h3:d8 Tryz.prog 60 [.val (num r.tries),.val (num 0),.val (num 3)] (.ret (.val (.bool b3)) []) []) (h4:d8 Tryz.prog 173 [.val (tx r.body)] (.ret (.val (.bool b4)) []) []) :
 d8 Tryz.prog 172 [.val (j5 r)] (.ret (.val (.bool (b1 && b2 && b3 && b4))) []) []:=by
 refine f5 mixed ok172 rfl (fun _=>rfl) ?_
 unfold ir172
 rw [b7]
 simp [d9,i6,j6,b8,d7,j5,tx,num]
 refine b6 rfl rfl (.inl rfl) h1 ?_
 cases b1 with
 | false=>simp
 | true=>
  simp [num]
  refine b6 rfl rfl (.inl rfl) h2 ?_
  cases b2 with
  | false=>simp
  | true=>
   simp [num]
   refine b6 rfl rfl (.inl rfl) h3 ?_
   cases b3 with
   | false=>simp
   | true=>
    simp [num]
    refine b6 rfl rfl (.inl rfl) h4 ?_
    cases b4<;>simp
theorem c06 (r:LReport):d8 Tryz.prog 172 [.val (j5 r)] (.ret (.val (.bool (X2 r))) []) []:=
 b32 r _ _ _ _ (P6 r.id 1 1000000) (P6 r.born 0 1000000) (P6 r.tries 0 3) (b8i r.body)
theorem c02 (n:Int):d8 Tryz.prog 136 [.val (num n)] (.ret (.val (.bool (decide (100≤n∧n≤599)))) []) []:=by
 refine f5 mixed ok136 rfl (fun _=>rfl) ?_
 unfold ir136
 rw [b7]
 have h:=P6 n 100 599
 simp [d9,i6,j6,b8,d7,num]
 refine b6 rfl rfl (.inl rfl) h ?_
 simp
theorem c4r (q:LQueue) (hb:a1r 1048576 q):d8 Tryz.prog 130 [.val (A4 q)] (.ret (.val (.bool (R2 q))) []) []:=by
 refine f5 mixed ok130 rfl (fun _=>rfl) ?_
 unfold ir130
 rw [b7]
 by_cases h5:q.items.length≤5
 rotate_left
 · have h5':(5:Int) < q.items.length:=by omega
   have:R2 q=false:=by unfold R2;rw [decide_eq_false h5];rfl
   simp [d9,i6,j6,b8,d7,A4,h5',this]
 have h5':¬ (5:Int) < q.items.length:=by omega
 by_cases h6:q.recent.length≤6
 rotate_left
 · have h6':(6:Int) < q.recent.length:=by omega
   have:R2 q=false:=by unfold R2;rw [decide_eq_false h6];simp
   simp [d9,i6,j6,b8,d7,A4,h5',h6',this]
 have h6':¬ (6:Int) < q.recent.length:=by omega
 have hfin:Y4 q.items.length (a38 q.items)=true→Y4 q.recent.length (a7k q.recent)=true→R2 q=true:=fun a b=>by
  unfold R2;rw [decide_eq_true h5,decide_eq_true h6,a,b];rfl
 simp [d9,i6,j6,b8,d7,A4,h5',h6']
 refine j7 (X:=Nat) (fun i=>⟨l8 [(1,.ptr 1 0),(18,.val (.list 4 (q.items.map j5))),(19,.val (num q.items.length)),(20,.val (num i))],l9 [(1,.box [.val (.list 4 (q.items.map j5)),.val (.list 1 (q.recent.map tx))])]⟩) (fun i=>i≤q.items.length∧Y4 i (a38 q.items)=true) (fun i=>q.items.length - i) 0 (Le.mk _ _ ?_ ?_) ?_ ?_
 · simp [upd,num]
 · simp
 · simp [a0l]
 · rintro i ⟨hi,hall⟩
   simp [num]
   refine f6 (fun h1=>?_) (fun h1=>?_)
   · have A1:=a88 (q:=q) h1
     have hsu:=Z6 (a38 q.items) i
     rw [hall,Bool.true_and] at hsu
     obtain ⟨r,hr⟩:∃ r,q.items[i]=r:=⟨_,rfl⟩
     have hR:=c06 r
     have wi:IntKind.i64.wrap ((i:Int)+1)=((i+1:Nat):Int):=by rw [wrap_i64 (by omega) (by omega)];omega
     by_cases h0:i=0
     · subst h0
       rw [b18 h1,hr] at A1 hsu
       simp [num,h1,hr,j5,tx,PV.kill,MObj.kill]
       refine m0 rfl rfl (.inl rfl) hR ?_
       cases hk:X2 r with
       | false=>simp [A1 hk]
       | true=>
        simp [num]
        refine LoopNext.mk 1 ⟨by omega,by rw [hsu,hk]⟩ (by omega) (Le.mk _ _ ?_ ?_)
        · simp [num,upd,PV.kill];decide
        · simp [tx,PV.kill,MObj.kill]
     · obtain ⟨j,hij⟩:∃ j,i=j+1:=⟨i - 1,by omega⟩
       have hj:j < q.items.length:=by omega
       obtain ⟨s,hs⟩:∃ s,q.items[j]=s:=⟨_,rfl⟩
       have hra:a38 q.items i=(X2 r && (decide (s.id < r.id) && decide (s.born≤r.born))):=by
        subst hij;rw [b19 h1,hr,hs]
       rw [hra] at A1 hsu
       have wj:IntKind.i64.wrap ((i:Int) - 1)=(j:Int):=by rw [wrap_i64 (by omega) (by omega)];omega
       have hp:0 < i:=by omega
       simp [num,h1,hr,j5,tx,PV.kill,MObj.kill]
       refine m0 rfl rfl (.inl rfl) hR ?_
       cases hk:X2 r with
       | false=>simp [A1 (by rw [hk];rfl)]
       | true=>
        rw [hk,Bool.true_and] at A1 hsu
        by_cases hA:s.id < r.id
        · have hA':¬ r.id≤s.id:=by omega
          by_cases hB:s.born≤r.born
          · have hB':¬ r.born < s.born:=by omega
            simp [num,h1,hr,hs,hj,hp,wj,j5,tx,PV.kill,MObj.kill,hA',hB']
            refine LoopNext.mk (i+1) ⟨by omega,by rw [hsu,decide_eq_true hA,decide_eq_true hB];rfl⟩ (by omega) (Le.mk _ _ ?_ ?_)
            · simp [num,wi,PV.kill]
            · simp [tx,PV.kill,MObj.kill]
          · have hB':r.born < s.born:=by omega
            simp [num,h1,hr,hs,hj,hp,wj,j5,tx,PV.kill,MObj.kill,hA',hB',A1 (by rw [decide_eq_false hB,Bool.and_false])]
        · have hA':r.id≤s.id:=by omega
          simp [num,h1,hr,hs,hj,hp,wj,j5,tx,PV.kill,MObj.kill,hA',A1 (by rw [decide_eq_false hA,Bool.false_and])]
   · have e:i=q.items.length:=by omega
     subst e
     simp [num]
     refine j7 (X:=Nat) (fun i=>⟨l8 [(1,.ptr 1 0),(58,.val (.list 1 (q.recent.map tx))),(59,.val (num q.recent.length)),(60,.val (num i))],l9 [(1,.box [.val (.list 4 (q.items.map j5)),.val (.list 1 (q.recent.map tx))])]⟩) (fun i=>i≤q.recent.length∧Y4 i (a7k q.recent)=true) (fun i=>q.recent.length - i) 0 (Le.mk _ _ ?_ ?_) ?_ ?_
     · simp [upd,num]
     · simp
     · simp [a0l]
     · rintro i ⟨hi2,hall2⟩
       simp [num]
       refine f6 (fun h1=>?_) (fun h1=>?_)
       · have A1:=a89 (q:=q) h1
         have hsu:=Z6 (a7k q.recent) i
         rw [hall2,Bool.true_and] at hsu
         rw [b7b h1] at A1 hsu
         obtain ⟨r,hr⟩:∃ r,q.recent[i]=r:=⟨_,rfl⟩
         rw [hr] at A1 hsu
         have hR:=b8i r
         have hH:=a3x (q.recent.take i) r (by simp;omega)
         have wi:IntKind.i64.wrap ((i:Int)+1)=((i+1:Nat):Int):=by rw [wrap_i64 (by omega) (by omega)];omega
         have hile:i≤q.recent.length:=by omega
         simp [num,h1,hr,tx,b9]
         refine b6 rfl rfl (.inl rfl) hR ?_
         cases hk:decide (1≤r.length∧r.length≤8000) with
         | false=>simp [A1 (by rw [hk];rfl)]
         | true=>
          rw [hk,Bool.true_and] at A1 hsu
          simp [num,h1,hr,tx,hile,← List.map_take]
          refine b6 rfl rfl (.inl rfl) hH ?_
          by_cases hm:r∈q.recent.take i
          · simp [hm,A1 (by rw [decide_eq_false (fun h=>h hm)])]
          · simp [hm]
            refine LoopNext.mk (i+1) ⟨by omega,by rw [hsu,decide_eq_true hm]⟩ (by omega) (Le.mk _ _ ?_ ?_)
            · simp [num,wi]
            · simp [tx]
       · have e:i=q.recent.length:=by omega
         subst e
         simp [hfin hall hall2]
def a9u (p:LPipe):List RV:=[.list 6 (p.channels.map i8),tx p.policy.reportTo,.list 1 (p.policy.uris.map tx),.list 2 (p.policy.rules.map j9),num p.now,num p.next,.list 3 (p.log.map u1),.list 7 (p.wires.map u4)]
theorem c4p (r:LReport) (p:LPipe):d8 Tryz.prog 132 [.val (j5 r),.box (a9u p)] (.ret (.val (.bool (!(decide (r.id < p.next) && decide (r.born≤p.now))))) []) [a9u p]:=by
 unfold a9u
 refine T2 mixed ok132 rfl (fun _=>rfl) ?_
 unfold ir132
 rw [b7]
 by_cases hA:r.id < p.next
 · have hA':¬ p.next≤r.id:=by omega
   by_cases hB:r.born≤p.now
   · have hB':¬ p.now < r.born:=by omega
     simp [d9,i6,j6,b8,d7,j5,tx,num,hA,hA',hB,hB',Q8,P9]
   · have hB':p.now < r.born:=by omega
     simp [d9,i6,j6,b8,d7,j5,tx,num,hA,hA',hB,hB',Q8,P9]
 · have hA':p.next≤r.id:=by omega
   simp [d9,i6,j6,b8,d7,j5,tx,num,hA,hA',Q8,P9]
end Go.Proofs
end
section
namespace Go.Proofs
open Go.PW Go.KP
attribute [local simp] RV.cells RV.one PV.cells PV.solid PV.one t8 f9 H0 A5 RV.ofCells elems PV.killL
variable [GH]
theorem b21 (a b:List LTarget) (ha:a.length < 1099511627776) (hb:b.length < 1099511627776):d8 Tryz.prog 128 [.val (.list 3 (a.map i7)),.val (.list 3 (b.map i7))] (.ret (.val (.bool (decide (a=b)))) []) []:=by
 refine f5 mixed ok128 rfl (fun _=>rfl) ?_
 unfold ir128
 rw [b7]
 by_cases hlen:a.length=b.length
 rotate_left
 · have h1:¬ (a.length:Int)=b.length:=by omega
   have h2:a≠b:=fun e=>hlen (by rw [e])
   simp [d9,i6,j6,b8,d7,h1,h2]
 simp [d9,i6,j6,b8,d7,num,hlen]
 refine j7 (X:=Nat) (fun i=>⟨l8 [(0,.val (.list 3 (a.map i7))),(1,.val (.list 3 (b.map i7))),(12,.val (num b.length)),(13,.val (num i))],l9 []⟩) (fun i=>i≤b.length∧a.take i=b.take i) (fun i=>b.length - i) 0 (Le.mk _ _ ?_ ?_) ?_ ?_
 · simp [upd,num]
 · simp
 · simp
 · rintro i ⟨hi,heq⟩
   simp [num]
   refine f6 (fun h1b=>?_) (fun h1=>?_)
   · have h1:i < a.length:=by omega
     obtain ⟨x,hx⟩:∃ x,a[i]=x:=⟨_,rfl⟩
     obtain ⟨y,hy⟩:∃ y,b[i]=y:=⟨_,rfl⟩
     have hne:x≠y→a≠b:=fun h e=>h (by subst e;rw [← hx,← hy])
     have wi:IntKind.i64.wrap ((i:Int)+1)=((i+1:Nat):Int):=by rw [wrap_i64 (by omega) (by omega)];omega
     by_cases hu:x.url=y.url
     · by_cases hp:x.prio=y.prio
       · by_cases hw:x.weight=y.weight
         · have hxy:x=y:=by
            cases x;cases y
            simp only at hu hp hw
            subst hu;subst hp;subst hw;rfl
           simp [num,h1,h1b,hx,hy,i7,tx,M2,a3g,a2l,G9,hu,hp,hw]
           refine LoopNext.mk (i+1) ⟨by omega,?_⟩ (by omega) (Le.mk _ _ ?_ ?_)
           · rw [List.take_add_one,List.take_add_one,List.getElem?_eq_getElem h1,List.getElem?_eq_getElem h1b,heq,hx,hy,hxy]
           · simp [num,wi]
           · simp
         · simp [num,h1,h1b,hx,hy,i7,tx,M2,a3g,a2l,G9,hu,hp,hw,hne (fun e=>hw (by rw [e]))]
       · simp [num,h1,h1b,hx,hy,i7,tx,M2,a3g,a2l,G9,hu,hp,hne (fun e=>hp (by rw [e]))]
     · simp [num,h1,h1b,hx,hy,i7,tx,M2,a3g,a2l,G9,hu,hne (fun e=>hu (by rw [e]))]
   · have e:i=b.length:=by omega
     subst e
     rw [← hlen,List.take_length,hlen,List.take_length] at heq
     simp [heq]
theorem c04 (c:LChannel) (name:Tx):d8 Tryz.prog 134 [.val (i8 c),.box [tx name]] (.ret (.val (.bool (decide (c.group.name=name)))) []) [[tx name]]:=by
 refine T2 mixed ok134 rfl (fun _=>rfl) ?_
 unfold ir134
 rw [b7]
 simp [d9,i6,j6,b8,d7,i8,tx,num,G9,Q8,P9]
theorem c4o (p:LPipe) (name:Tx) (hl:p.channels.length < 1099511627776):d8 Tryz.prog 83 [.val (u0 p),.val (tx name)] (.ret (.val (num (a0j p.channels fun c=>decide (c.group.name=name)))) []) []:=by
 have h:=a5w p.channels 134 (tx name) (fun c=>decide (c.group.name=name)) hl (by kernel_rfl) (fun c _=>c04 c name)
 refine f5 mixed ok83 rfl (fun _=>rfl) ?_
 unfold ir83
 rw [b7]
 simp [d9,i6,j6,b8,d7,u0,tx,num]
 refine S3 (ids:=[3]) rfl rfl (by simp) (by decide) (by simp [a11,y5,G3,y7,G1,y8,t6,y6,G2,m8,B2,H6,H7,k6,p9,q7,l4,y9,s8,l6,G0,y4,q9,q8,E1,E3,a04,a05,Option.getD_some,Option.getD_none,C7,u2,o9,D7,o8,o2,D9,o3,D8,D6,D5,I1,w9,o6,D3,w7,o5,D2,C5,D4,w8,D0,o1,w6,D1,I3,I2,C6,C8,o4,C9,x1,o7,B5,n5,C4,C3,C2,H8,v8,n7,C0,v6,n6,B9,B3,C1,v7,B7,n0,u9,B8,I0,H9,B4,u7,n9,B6,w5,n8,K2,J9,L5,K3,K7,K5,K4,L4,K6,K8,K9,L2,L3,z7,z6,z1,M8,M9,A8,G4,u3,E7,x3,L7,t7,R5,N2,M0,O4,O6,O5,R6,R7,J2,J4,J3,J5,J6,O1,x6,O0,E8,E9,F0,x7,a09,F7,y0,R3,R4,I4,N0,N1,Option.map_some,Option.map_none,F1,x8,x2,p5,E5,E6,I6,I5,P1,P0,J8,F8,F9,J7,O7,O8,I7,p7,I8,p6,N6,F6,F5,l5,O3,O9,J1,N7,N9,N8,x5,A9,B1,B0,l0,O2,S0,R9,N3,I9,V3,N4,p8,F3,F4,x9,F2,l3,u5,l2,u6,l1,L6,P2,P3,z8,A0,G6,G5,E4,tx]) rfl h ?_
 simp
theorem b8j (p:LPipe) (c:LChannel) (hb:Q9 1048576 c):d8 Tryz.prog 82 [.val (u0 p),.val (i8 c)] (.ret (.val (.bool (P8 p.next p.now c))) []) []:=by
 have hG:=c4v c.group hb.1
 have hpl:c.peers.length≤1048576:=hb.2.1.1
 have htl:c.group.targets.length≤1048576:=hb.1.2.1
 have hql:c.queue.items.length≤1048576:=hb.2.2.1.1
 have hP:=c4t c.peers (by omega) (fun x hx=>by have:=hb.2.1.2 x hx;unfold a0y T0 at this;omega)
 have hT:=b01 c.peers (by omega)
 have hE:=b21 (tgs c.peers) c.group.targets (by simp [tgs];omega) (by omega)
 have hQ:=c4r c.queue hb.2.2
 have hC:=a4y c.queue.items 132 (.list 6 (p.channels.map i8)) (tx p.policy.reportTo) (.list 1 (p.policy.uris.map tx)) (.list 2 (p.policy.rules.map j9)) (num p.now) (num p.next) (.list 3 (p.log.map u1)) (.list 7 (p.wires.map u4)) (fun r=>!(decide (r.id < p.next) && decide (r.born≤p.now))) (by omega) (by kernel_rfl) (fun r _=>c4p r p)
 have hch:P8 p.next p.now c=(a19 c.group && X8 c.peers && decide (tgs c.peers=c.group.targets) && R2 c.queue && !(c.queue.items.any fun r=>!(decide (r.id < p.next) && decide (r.born≤p.now)))):=by
  unfold P8 tgs
  rw [List.not_any_eq_all_not]
  simp only [Bool.not_not]
 rw [hch]
 refine f5 mixed ok82 rfl (fun _=>rfl) ?_
 unfold ir82
 rw [b7]
 simp [d9,i6,j6,b8,d7,u0,i8,tx,num]
 refine m0 rfl rfl (.inl rfl) hG ?_
 cases a19 c.group with
 | false=>simp
 | true=>
 simp [num]
 refine m0 rfl rfl (.inl rfl) hP ?_
 cases X8 c.peers with
 | false=>simp
 | true=>
 simp [num]
 refine m0 rfl rfl (.inl rfl) hT ?_
 simp [num]
 refine m0 rfl rfl (.inl rfl) hE ?_
 cases decide (tgs c.peers=c.group.targets) with
 | false=>simp
 | true=>
 simp [num]
 refine m0 rfl rfl (.inl rfl) hQ ?_
 cases R2 c.queue with
 | false=>simp
 | true=>
 simp [num]
 refine S3 (ids:=[2]) rfl rfl (by simp) (by decide) (by simp [a11,y5,G3,y7,G1,y8,t6,y6,G2,m8,B2,H6,H7,k6,p9,q7,l4,y9,s8,l6,G0,y4,q9,q8,E1,E3,a04,a05,Option.getD_some,Option.getD_none,C7,u2,o9,D7,o8,o2,D9,o3,D8,D6,D5,I1,w9,o6,D3,w7,o5,D2,C5,D4,w8,D0,o1,w6,D1,I3,I2,C6,C8,o4,C9,x1,o7,B5,n5,C4,C3,C2,H8,v8,n7,C0,v6,n6,B9,B3,C1,v7,B7,n0,u9,B8,I0,H9,B4,u7,n9,B6,w5,n8,K2,J9,L5,K3,K7,K5,K4,L4,K6,K8,K9,L2,L3,z7,z6,z1,M8,M9,A8,G4,u3,E7,x3,L7,t7,R5,N2,M0,O4,O6,O5,R6,R7,J2,J4,J3,J5,J6,O1,x6,O0,E8,E9,F0,x7,a09,F7,y0,R3,R4,I4,N0,N1,Option.map_some,Option.map_none,F1,x8,x2,p5,E5,E6,I6,I5,P1,P0,J8,F8,F9,J7,O7,O8,I7,p7,I8,p6,N6,F6,F5,l5,O3,O9,J1,N7,N9,N8,x5,A9,B1,B0,l0,O2,S0,R9,N3,I9,V3,N4,p8,F3,F4,x9,F2,l3,u5,l2,u6,l1,L6,P2,P3,z8,A0,G6,G5,E4,tx,num]) rfl hC ?_
 simp
theorem b6t (p:LPipe) (w:LWire) (b1 b2 b3 b5:Bool) (hn:1≤p.next∧p.next≤1000000) (hil:w.ids.length≤1048576) (h1:d8 Tryz.prog 60 [.val (num w.at_),.val (num 0),.val (num p.now)] (.ret (.val (.bool b1)) []) [])
 (h2:d8 Tryz.prog 136 [.val (num w.status)] (.ret (.val (.bool b2)) []) []) (h3:d8 Tryz.prog 137 [.val (tx w.group)] (.ret (.val (.bool b3)) []) [])
 (h5:d8 Tryz.prog 60 [.val (num w.ids.length),.val (num 1),.val (num 3)] (.ret (.val (.bool b5)) []) []) :
 d8 Tryz.prog 86 [.val (u0 p),.val (u4 w)] (.ret (.val (.bool (b1 && b2 && b3 && decide (w.url.length≤100) && b5 && decide (w.body.length≤65536) && Y4 w.ids.length (a6h p.next w.ids)))) []) []:=by
 refine f5 mixed ok86 rfl (fun _=>rfl) ?_
 unfold ir86
 rw [b7]
 simp [d9,i6,j6,b8,d7,u0,u4,tx,num]
 refine b6 rfl rfl (.inl rfl) h1 ?_
 cases b1 with
 | false=>simp
 | true=>
 simp [num]
 refine b6 rfl rfl (.inl rfl) h2 ?_
 cases b2 with
 | false=>simp
 | true=>
 simp [num]
 refine b6 rfl rfl (.inl rfl) h3 ?_
 cases b3 with
 | false=>simp
 | true=>
 by_cases hu:w.url.length≤100
 rotate_left
 · have hu':(100:Int) < w.url.length:=by omega
   simp [num,b9,hu',hu]
 have hu':¬ (100:Int) < w.url.length:=by omega
 simp [num,b9,hu',hu]
 refine b6 rfl rfl (.inl rfl) h5 ?_
 cases b5 with
 | false=>simp
 | true=>
 by_cases hy:w.body.length≤65536
 rotate_left
 · have hy':(65536:Int) < w.body.length:=by omega
   simp [num,b9,hy',hy]
 have hy':¬ (65536:Int) < w.body.length:=by omega
 simp [num,b9,hy',hy]
 have wn:IntKind.i64.wrap (p.next - 1)=p.next - 1:=wrap_i64 (by omega) (by omega)
 refine j7 (X:=Nat) (fun i=>⟨l8 [(2,.ptr 2 0),(3,.ptr 3 0),(45,.val (.list 1 (w.ids.map num))),(46,.val (num w.ids.length)),(47,.val (num i))],l9 [(2,M4 p),(3,b3x w)]⟩) (fun i=>i≤w.ids.length∧Y4 i (a6h p.next w.ids)=true) (fun i=>w.ids.length - i) 0 (Le.mk _ _ ?_ ?_) ?_ ?_
 · simp [upd,num,PV.kill]
 · simp [M4,b3x,tx,num,MObj.kill,PV.kill]
 · simp [a0l]
 · rintro i ⟨hi,hall⟩
   simp [num,b3x]
   refine f6 (fun hlt=>?_) (fun hlt=>?_)
   · have A1:a6h p.next w.ids i=false→Y4 w.ids.length (a6h p.next w.ids)=false:=a3b hlt
     have hsu:=Z6 (a6h p.next w.ids) i
     rw [hall,Bool.true_and] at hsu
     obtain ⟨r,hr⟩:∃ r,w.ids[i]=r:=⟨_,rfl⟩
     have hR:=P6 r 1 (p.next - 1)
     have wi:IntKind.i64.wrap ((i:Int)+1)=((i+1:Nat):Int):=by rw [wrap_i64 (by omega) (by omega)];omega
     by_cases h0:i=0
     · subst h0
       rw [b4w hlt,hr] at A1 hsu
       simp [num,hlt,hr,tx,M4,wn]
       refine b6 rfl rfl (.inl rfl) hR ?_
       cases hk:decide (1≤r∧r≤p.next - 1) with
       | false=>simp [A1 hk]
       | true=>
        simp [num]
        refine LoopNext.mk 1 ⟨by omega,by rw [hsu,hk]⟩ (by omega) (Le.mk _ _ ?_ ?_)
        · simp [num,upd];decide
        · simp [tx,M4,b3x,num]
     · obtain ⟨j,hij⟩:∃ j,i=j+1:=⟨i - 1,by omega⟩
       have hj:j < w.ids.length:=by omega
       obtain ⟨s,hs⟩:∃ s,w.ids[j]=s:=⟨_,rfl⟩
       have hra:a6h p.next w.ids i=(decide (1≤r∧r≤p.next - 1) && decide (s < r)):=by
        subst hij;rw [b4x hlt,hr,hs]
       rw [hra] at A1 hsu
       have wj:IntKind.i64.wrap ((i:Int) - 1)=(j:Int):=by rw [wrap_i64 (by omega) (by omega)];omega
       have hp:0 < i:=by omega
       simp [num,hlt,hr,tx,M4,wn]
       refine b6 rfl rfl (.inl rfl) hR ?_
       cases hk:decide (1≤r∧r≤p.next - 1) with
       | false=>simp [A1 (by rw [hk];rfl)]
       | true=>
        rw [hk,Bool.true_and] at A1 hsu
        by_cases hA:s < r
        · have hA':¬ r≤s:=by omega
          simp [num,hlt,hr,hs,hj,hp,wj,tx,hA']
          refine LoopNext.mk (i+1) ⟨by omega,by rw [hsu,decide_eq_true hA]⟩ (by omega) (Le.mk _ _ ?_ ?_)
          · simp [num,wi]
          · simp [tx,M4,b3x,num]
        · have hA':r≤s:=by omega
          simp [num,hlt,hr,hs,hj,hp,wj,tx,hA',A1 (decide_eq_false hA)]
   · have e:i=w.ids.length:=by omega
     subst e
     simp [hall,hu,hy]
theorem c7h (p:LPipe) (w:LWire) (hn:1≤p.next∧p.next≤1000000) (hb:a0h 1048576 w):d8 Tryz.prog 86 [.val (u0 p),.val (u4 w)] (.ret (.val (.bool (V8 p.next p.now w))) []) []:=by
 have hgl:w.group.length≤1048576:=hb.1
 have hil:w.ids.length≤1048576:=hb.2.2.1
 have q:(1≤w.ids.length∧w.ids.length≤3)↔((1:Int)≤w.ids.length∧(w.ids.length:Int)≤3):=by omega
 unfold V8
 rw [decide_eq_decide.2 q]
 exact b6t p w _ _ _ _ hn hil (P6 w.at_ 0 p.now) (c02 w.status) (b20 w.group (by omega)) (P6 w.ids.length 1 3)
end Go.Proofs
end
section
namespace Go.Proofs
open Go.PW Go.KP
attribute [local simp] RV.cells RV.one PV.cells PV.solid PV.one t8 f9 H0 A5 RV.ofCells elems PV.killL
variable [GH]
theorem c4s (w:LWire) (p:LPipe) (hn:1≤p.next∧p.next≤1000000) (hb:a0h 1048576 w):d8 Tryz.prog 85 [.val (u4 w),.box (a9u p)] (.ret (.val (.bool (!V8 p.next p.now w))) []) [a9u p]:=by
 have hW:=c7h p w hn hb
 unfold a9u
 refine T2 mixed ok85 rfl (fun _=>rfl) ?_
 unfold ir85
 rw [b7]
 simp [d9,i6,j6,b8,d7,u4,tx,num]
 refine b6 rfl rfl (.inl rfl) hW ?_
 simp [num,tx,Q8,P9]
theorem c7q (p:LPipe) (hb:V6 1048576 p):d8 Tryz.prog 41 [.val (u0 p)] (.ret (.val (.bool (H4 p))) []) []:=by
 have hcl:p.channels.length≤1048576:=hb.1.1
 have hP:=c07 p.policy hb.2.1
 have hN:=i_isNow p.now
 have hX:=P6 p.next 1 1000000
 refine f5 mixed ok41 rfl (fun _=>rfl) ?_
 unfold ir41
 rw [b7]
 by_cases h5:p.channels.length≤5
 rotate_left
 · have h5':(5:Int) < p.channels.length:=by omega
   have hf:H4 p=false:=by unfold H4;rw [decide_eq_false h5];rfl
   simp [d9,i6,j6,b8,d7,u0,tx,num,h5',hf]
 have h5':¬ (5:Int) < p.channels.length:=by omega
 simp [d9,i6,j6,b8,d7,u0,tx,num,h5']
 refine b6 rfl rfl (.inl rfl) hP ?_
 cases hpol:W2 p.policy with
 | false=>
  have hf:H4 p=false:=by unfold H4;rw [hpol];simp
  simp [hf]
 | true=>
 simp [num]
 refine b6 rfl rfl (.inl rfl) hN ?_
 cases hnow:decide (0≤p.now∧p.now≤1000000) with
 | false=>
  have hf:H4 p=false:=by unfold H4;rw [hnow];simp
  simp [hf]
 | true=>
 simp [num]
 refine b6 rfl rfl (.inl rfl) hX ?_
 cases hnext:decide (1≤p.next∧p.next≤1000000) with
 | false=>
  have hf:H4 p=false:=by unfold H4;rw [hnext];simp
  simp [hf]
 | true=>
 by_cases hll:p.log.length≤4096
 rotate_left
 · have hll':(4096:Int) < p.log.length:=by omega
   have hf:H4 p=false:=by unfold H4;rw [decide_eq_false hll];simp
   simp [num,hll',hf]
 have hll':¬ (4096:Int) < p.log.length:=by omega
 by_cases hwl:p.wires.length≤4096
 rotate_left
 · have hwl':(4096:Int) < p.wires.length:=by omega
   have hf:H4 p=false:=by unfold H4;rw [decide_eq_false hwl];simp
   simp [num,hll',hwl',hf]
 have hwl':¬ (4096:Int) < p.wires.length:=by omega
 have hpk:H4 p=(Y4 p.channels.length (a2e p) && Y4 p.log.length (a29 p.next p.now p.log) && p.wires.all (V8 p.next p.now)):=by
  unfold H4;rw [decide_eq_true h5,hpol,hnow,hnext,decide_eq_true hll,decide_eq_true hwl];simp
 have hn2:1≤p.next∧p.next≤1000000:=of_decide_eq_true hnext
 have wn:IntKind.i64.wrap (p.next - 1)=p.next - 1:=wrap_i64 (by omega) (by omega)
 have hpk2:H4 p=(Y4 p.channels.length (a2e p) && Y4 p.log.length (a29 p.next p.now p.log) && !(p.wires.any fun w=>!V8 p.next p.now w)):=by
  rw [hpk,List.not_any_eq_all_not]
  simp only [Bool.not_not]
 have hC:=a5x p.wires 85 (.list 6 (p.channels.map i8)) (tx p.policy.reportTo) (.list 1 (p.policy.uris.map tx)) (.list 2 (p.policy.rules.map j9)) (num p.now) (num p.next) (.list 3 (p.log.map u1)) (.list 7 (p.wires.map u4)) (fun w=>!V8 p.next p.now w) (by omega) (by kernel_rfl) (fun w hw=>c4s w p hn2 (hb.2.2.2.2 w hw))
 rw [hpk2]
 simp [num,hll',hwl']
 refine j7 (X:=Nat) (fun i=>⟨l8 [(1,.ptr 1 0),(43,.val (.list 6 (p.channels.map i8))),(44,.val (num p.channels.length)),(45,.val (num i))],l9 [(1,M4 p)]⟩) (fun i=>i≤p.channels.length∧Y4 i (a2e p)=true) (fun i=>p.channels.length - i) 0 (Le.mk _ _ ?_ ?_) ?_ ?_
 · simp [upd,num,PV.kill]
 · simp [M4,tx,num,MObj.kill,PV.kill]
 · simp [a0l]
 · rintro i ⟨hi,hall⟩
   simp [num,M4]
   refine f6 (fun hlt=>?_) (fun hlt=>?_)
   · have A1:a2e p i=false→(Y4 p.channels.length (a2e p) && Y4 p.log.length (a29 p.next p.now p.log) && !(p.wires.any fun w=>!V8 p.next p.now w))=false:=fun h=>by rw [a3b hlt h];rfl
     have hsu:=Z6 (a2e p) i
     rw [hall,Bool.true_and] at hsu
     rw [a99 hlt] at A1 hsu
     have hnm:=b89 p i hlt
     obtain ⟨c,hc⟩:∃ c,p.channels[i]=c:=⟨_,rfl⟩
     have hbc:Q9 1048576 c:=by rw [← hc];exact hb.1.2 _ (List.getElem_mem hlt)
     rw [hc] at A1 hsu hnm
     have hA:=c4o p c.group.name (by omega)
     have hCh:=b8j p c hbc
     have wi:IntKind.i64.wrap ((i:Int)+1)=((i+1:Nat):Int):=by rw [wrap_i64 (by omega) (by omega)];omega
     simp [num,hlt,hc,i8,tx,PV.kill,MObj.kill]
     refine b6 rfl rfl (.inl rfl) hCh ?_
     cases hk:P8 p.next p.now c with
     | false=>simp [A1 (by rw [hk,Bool.and_false])]
     | true=>
      rw [hk,Bool.and_true] at A1 hsu
      simp [num,tx,PV.kill,MObj.kill]
      refine b6 rfl rfl (.inl rfl) hA ?_
      by_cases hu:c.group.name∈(p.channels.map fun c=>c.group.name).take i
      · have hne:¬ (a0j p.channels fun x=>decide (x.group.name=c.group.name))=(i:Int):=fun h=>hnm.1 h hu
        simp [num,hne,A1 (decide_eq_false (fun h=>h hu))]
      · have heq:=hnm.2 hu
        simp [num,heq]
        refine LoopNext.mk (i+1) ⟨by omega,by rw [hsu,decide_eq_true hu]⟩ (by omega) (Le.mk _ _ ?_ ?_)
        · simp [num,wi,PV.kill]
        · simp [tx,M4,num,PV.kill,MObj.kill]
   · have e:i=p.channels.length:=by omega
     subst e
     rw [hall,Bool.true_and]
     simp [num]
     refine j7 (X:=Nat) (fun i=>⟨l8 [(1,.ptr 1 0),(5,.val (num (a7t p.log i))),(65,.val (.list 3 (p.log.map u1))),(66,.val (num p.log.length)),(67,.val (num i))],l9 [(1,M4 p)]⟩) (fun i=>i≤p.log.length∧Y4 i (a29 p.next p.now p.log)=true) (fun i=>p.log.length - i) 0 (Le.mk _ _ ?_ ?_) ?_ ?_
     · simp [upd,num,PV.kill,a7t]
     · simp [M4,tx,num,MObj.kill,PV.kill]
     · simp [a0l]
     · rintro i ⟨hi2,hall2⟩
       simp [num,M4]
       refine f6 (fun hlt=>?_) (fun hlt=>?_)
       · have A1:a29 p.next p.now p.log i=false→(Y4 p.log.length (a29 p.next p.now p.log) && !(p.wires.any fun w=>!V8 p.next p.now w))=false:=fun h=>by rw [a3b hlt h];rfl
         have hsu:=Z6 (a29 p.next p.now p.log) i
         rw [hall2,Bool.true_and] at hsu
         rw [a9k hlt] at A1 hsu
         have hls:=a8h hlt
         obtain ⟨x,hx⟩:∃ x,p.log[i]=x:=⟨_,rfl⟩
         rw [hx] at A1 hsu hls
         have hK:=P6 x.kind 1 7
         have hI:=P6 x.id 1 (p.next - 1)
         have hT:=P6 x.at_ (a7t p.log i) p.now
         have wi:IntKind.i64.wrap ((i:Int)+1)=((i+1:Nat):Int):=by rw [wrap_i64 (by omega) (by omega)];omega
         simp [num,hlt,hx,u1,tx,PV.kill,MObj.kill]
         refine b6 rfl rfl (.inl rfl) hK ?_
         cases hk:decide (1≤x.kind∧x.kind≤7) with
         | false=>simp [A1 (by rw [hk];rfl)]
         | true=>
         rw [hk,Bool.true_and] at A1 hsu
         simp [num,wn,PV.kill]
         refine b6 rfl rfl (.inl rfl) hI ?_
         cases hid:decide (1≤x.id∧x.id≤p.next - 1) with
         | false=>simp [A1 (by rw [hid];rfl)]
         | true=>
         rw [hid,Bool.true_and] at A1 hsu
         simp [num,wn,PV.kill]
         refine b6 rfl rfl (.inl rfl) hT ?_
         cases hat:decide (a7t p.log i≤x.at_∧x.at_≤p.now) with
         | false=>simp [A1 hat]
         | true=>
          simp [num,PV.kill]
          refine LoopNext.mk (i+1) ⟨by omega,by rw [hsu,hat]⟩ (by omega) (Le.mk _ _ ?_ ?_)
          · simp [num,wi,PV.kill,hls]
          · simp [tx,M4,num,PV.kill,MObj.kill]
       · have e:i=p.log.length:=by omega
         subst e
         rw [hall2,Bool.true_and]
         simp [num]
         refine S3 (ids:=[1]) rfl rfl (by simp) (by decide) (by simp [a11,y5,G3,y7,G1,y8,t6,y6,G2,m8,B2,H6,H7,k6,p9,q7,l4,y9,s8,l6,G0,y4,q9,q8,E1,E3,a04,a05,Option.getD_some,Option.getD_none,C7,u2,o9,D7,o8,o2,D9,o3,D8,D6,D5,I1,w9,o6,D3,w7,o5,D2,C5,D4,w8,D0,o1,w6,D1,I3,I2,C6,C8,o4,C9,x1,o7,B5,n5,C4,C3,C2,H8,v8,n7,C0,v6,n6,B9,B3,C1,v7,B7,n0,u9,B8,I0,H9,B4,u7,n9,B6,w5,n8,K2,J9,L5,K3,K7,K5,K4,L4,K6,K8,K9,L2,L3,z7,z6,z1,M8,M9,A8,G4,u3,E7,x3,L7,t7,R5,N2,M0,O4,O6,O5,R6,R7,J2,J4,J3,J5,J6,O1,x6,O0,E8,E9,F0,x7,a09,F7,y0,R3,R4,I4,N0,N1,Option.map_some,Option.map_none,F1,x8,x2,p5,E5,E6,I6,I5,P1,P0,J8,F8,F9,J7,O7,O8,I7,p7,I8,p6,N6,F6,F5,l5,O3,O9,J1,N7,N9,N8,x5,A9,B1,B0,l0,O2,S0,R9,N3,I9,V3,N4,p8,F3,F4,x9,F2,l3,u5,l2,u6,l1,L6,P2,P3,z8,A0,G6,G5,E4,tx,num]) rfl hC ?_
         simp
end Go.Proofs
end
