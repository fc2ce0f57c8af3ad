/- Eg: merged out of KIu, KIv, KIx, KIy. -/
import Derived.Test.YtapjdgcfakhpaaaGreatDoorCa
import Derived.Test.YtapjdgcfakhpaaaGreatDoorAc
import Derived.Test.YtapjdgcfakhpaaaGreatDoorBa
import Derived.Test.YtapjdgcfakhpaaaGreatDoorEb
import Derived.Test.YtapjdgcfakhpaaaGreatDoorEc
import Derived.Test.YtapjdgcfakhpaaaGreatDoorCc
set_option linter.unusedSectionVars false
set_option linter.unusedSimpArgs false
set_option linter.unusedVariables false
set_option maxRecDepth 100000
section
namespace Go.Proofs
open Go.PW Go.KP
attribute [local simp] RV.cells RV.one PV.cells PV.solid PV.one x6 j2 J4 I7 RV.ofCells elems PV.killL
variable [GF]
theorem a6k (l:List LReport) (g:Nat) (c0_0 c0_1 c0_2 c0_3 c0_4 c0_5 c0_6 c0_7:RV) (p:LReport→Bool) (hl:l.length < 1099511627776) (hg:fnB Tryz.prog g=true)
 (hp:∀ x∈l,f8 Tryz.prog g [.val (j8 x),.box [c0_0,c0_1,c0_2,c0_3,c0_4,c0_5,c0_6,c0_7]] (.ret (.val (.bool (p x))) []) [[c0_0,c0_1,c0_2,c0_3,c0_4,c0_5,c0_6,c0_7]]) :
 f8 Tryz.prog 244 [.val (.list 4 (l.map j8)),.fn g [.box [c0_0,c0_1,c0_2,c0_3,c0_4,c0_5,c0_6,c0_7]]] (.ret (.val (num (a0v l p))) []) [[c0_0,c0_1,c0_2,c0_3,c0_4,c0_5,c0_6,c0_7]]:=by
 refine V3 mixed ok244 rfl (fun _=>rfl) ?_
 unfold ir244
 rw [b7]
 simp [i6,j3,j9,b8,f6,j9,j3]
 refine l3 (X:=Nat) (fun i=>⟨x5 [(0,.val (.list 4 (l.map j8))),(1,.fn g [.ptr 900 0]),(7,.val (num l.length)),(8,.val (num i))],x4 [(900,.box [.val c0_0,.val c0_1,.val c0_2,.val c0_3,.val c0_4,.val c0_5,.val c0_6,.val c0_7])]⟩) (fun i=>i≤l.length∧∀ k (hk:k < i) (hk':k < l.length),p l[k]=false) (fun i=>l.length - i) 0 (Le.mk _ _ ?_ ?_) ?_ ?_
 · simp [upd,num]
 · simp
 · simp
 · rintro i ⟨hi,hne⟩
   simp [num]
   refine j1 (fun h1=>?_) (fun h1=>?_)
   · have e1:(l.map j8)[i]?.getD .nilptr=j8 l[i]:=by simp [List.getElem?_eq_getElem h1]
     simp [num,h1,e1,j8,tx,num,hg]
     refine U0 (ids:=[900]) rfl rfl (by simp) (by decide) (by simp [a2g,B0,I1,B2,H9,B3,x1,B1,I0,p9,D1,J5,J6,l5,w5,w6,o0,B4,w9,p6,H8,A9,w8,w7,G0,G1,a1i,a1j,Option.getD_some,Option.getD_none,E7,x7,u7,F7,u6,u0,F9,u1,F8,F6,F5,K2,z8,u4,F3,z6,u3,F2,E5,F4,z7,F0,t8,z1,F1,K4,K3,E6,E8,u2,E9,A0,u5,D4,q8,E4,E3,E2,J7,y8,s8,D9,y6,q9,D8,D2,E1,y7,D6,q7,y5,D7,J9,J8,D3,y4,t7,D5,y9,t6,M3,M2,N4,M4,M8,M6,M5,N3,M7,M9,N0,N1,N2,B7,B6,B5,O5,O6,C7,I2,x8,G5,A2,N6,x2,T2,P0,N7,Q2,Q4,Q3,T3,T4,L5,L7,L6,L8,L9,P9,A4,P8,G6,G7,G8,A5,a1o,H5,A8,T0,T1,K5,O7,O8,Option.map_some,Option.map_none,G9,A6,A1,u9,G3,G4,K7,K6,Q9,Q8,M1,H6,H7,M0,Q5,Q6,K8,v7,K9,v6,P4,H4,H3,p5,Q1,Q7,L4,P5,P7,P6,A3,C8,D0,C9,l9,Q0,T7,T6,P1,L2,X5,P2,v8,H1,H2,A7,H0,n0,x9,m8,y0,m0,N5,R0,R1,B8,B9,I4,I3,G2]) rfl (hp l[i] (List.getElem_mem h1)) ?_
     cases hpi:p l[i] with
     | true=>
      simp [S7,R6]
      rw [Z6 h1 hpi (fun k hk=>hne k hk (by omega))];rfl
     | false=>
      simp
      refine LoopNext.mk (i+1) ⟨by omega,fun k hk hk'=>?_⟩ (by omega) (Le.mk _ _ ?_ ?_)
      · by_cases e:k=i
        · subst e;exact hpi
        · exact hne k (by omega) hk'
      · simp [num];exact wrap_i64 (by omega) (by omega)
      · simp
   · have e:i=l.length:=by omega
     subst e
     simp [num,S7,R6]
     rw [Y3 (fun k hk=>hne k hk hk)]
theorem a45 (l:List LReport) (g:Nat) (c0_0 c0_1 c0_2 c0_3 c0_4 c0_5 c0_6 c0_7:RV) (p:LReport→Bool) (hl:l.length < 1099511627776) (hg:fnB Tryz.prog g=true)
 (hp:∀ x∈l,f8 Tryz.prog g [.val (j8 x),.box [c0_0,c0_1,c0_2,c0_3,c0_4,c0_5,c0_6,c0_7]] (.ret (.val (.bool (p x))) []) [[c0_0,c0_1,c0_2,c0_3,c0_4,c0_5,c0_6,c0_7]]) :
 f8 Tryz.prog 179 [.val (.list 4 (l.map j8)),.fn g [.box [c0_0,c0_1,c0_2,c0_3,c0_4,c0_5,c0_6,c0_7]]] (.ret (.val (.bool (l.any p))) []) [[c0_0,c0_1,c0_2,c0_3,c0_4,c0_5,c0_6,c0_7]]:=by
 refine V3 mixed ok179 rfl (fun _=>rfl) ?_
 unfold ir179
 rw [b7]
 simp [i6,j3,j9,b8,f6,j9,j3]
 refine U0 (ids:=[900]) rfl rfl (by simp) (by decide) (by simp [a2g,B0,I1,B2,H9,B3,x1,B1,I0,p9,D1,J5,J6,l5,w5,w6,o0,B4,w9,p6,H8,A9,w8,w7,G0,G1,a1i,a1j,Option.getD_some,Option.getD_none,E7,x7,u7,F7,u6,u0,F9,u1,F8,F6,F5,K2,z8,u4,F3,z6,u3,F2,E5,F4,z7,F0,t8,z1,F1,K4,K3,E6,E8,u2,E9,A0,u5,D4,q8,E4,E3,E2,J7,y8,s8,D9,y6,q9,D8,D2,E1,y7,D6,q7,y5,D7,J9,J8,D3,y4,t7,D5,y9,t6,M3,M2,N4,M4,M8,M6,M5,N3,M7,M9,N0,N1,N2,B7,B6,B5,O5,O6,C7,I2,x8,G5,A2,N6,x2,T2,P0,N7,Q2,Q4,Q3,T3,T4,L5,L7,L6,L8,L9,P9,A4,P8,G6,G7,G8,A5,a1o,H5,A8,T0,T1,K5,O7,O8,Option.map_some,Option.map_none,G9,A6,A1,u9,G3,G4,K7,K6,Q9,Q8,M1,H6,H7,M0,Q5,Q6,K8,v7,K9,v6,P4,H4,H3,p5,Q1,Q7,L4,P5,P7,P6,A3,C8,D0,C9,l9,Q0,T7,T6,P1,L2,X5,P2,v8,H1,H2,A7,H0,n0,x9,m8,y0,m0,N5,R0,R1,B8,B9,I4,I3,G2]) rfl (a6k l g c0_0 c0_1 c0_2 c0_3 c0_4 c0_5 c0_6 c0_7 p hl hg hp) ?_
 simp [num,S7,R6]
 exact a4l l p
theorem a50 (l:List LChannel) (g:Nat) (c0_0:RV) (p:LChannel→Bool) (hl:l.length < 1099511627776) (hg:fnB Tryz.prog g=true)
 (hp:∀ x∈l,f8 Tryz.prog g [.val (j5 x),.box [c0_0]] (.ret (.val (.bool (p x))) []) [[c0_0]]) :
 f8 Tryz.prog 181 [.val (.list 6 (l.map j5)),.fn g [.box [c0_0]]] (.ret (.val (num (a0v l p))) []) [[c0_0]]:=by
 refine V3 mixed ok181 rfl (fun _=>rfl) ?_
 unfold ir181
 rw [b7]
 simp [i6,j3,j9,b8,f6,j9,j3]
 refine l3 (X:=Nat) (fun i=>⟨x5 [(0,.val (.list 6 (l.map j5))),(1,.fn g [.ptr 900 0]),(7,.val (num l.length)),(8,.val (num i))],x4 [(900,.box [.val c0_0])]⟩) (fun i=>i≤l.length∧∀ k (hk:k < i) (hk':k < l.length),p l[k]=false) (fun i=>l.length - i) 0 (Le.mk _ _ ?_ ?_) ?_ ?_
 · simp [upd,num]
 · simp
 · simp
 · rintro i ⟨hi,hne⟩
   simp [num]
   refine j1 (fun h1=>?_) (fun h1=>?_)
   · have e1:(l.map j5)[i]?.getD .nilptr=j5 l[i]:=by simp [List.getElem?_eq_getElem h1]
     simp [num,h1,e1,I8,C3,j5,tx,num,hg]
     refine U0 (ids:=[900]) rfl rfl (by simp) (by decide) (by simp [a2g,B0,I1,B2,H9,B3,x1,B1,I0,p9,D1,J5,J6,l5,w5,w6,o0,B4,w9,p6,H8,A9,w8,w7,G0,G1,a1i,a1j,Option.getD_some,Option.getD_none,E7,x7,u7,F7,u6,u0,F9,u1,F8,F6,F5,K2,z8,u4,F3,z6,u3,F2,E5,F4,z7,F0,t8,z1,F1,K4,K3,E6,E8,u2,E9,A0,u5,D4,q8,E4,E3,E2,J7,y8,s8,D9,y6,q9,D8,D2,E1,y7,D6,q7,y5,D7,J9,J8,D3,y4,t7,D5,y9,t6,M3,M2,N4,M4,M8,M6,M5,N3,M7,M9,N0,N1,N2,B7,B6,B5,O5,O6,C7,I2,x8,G5,A2,N6,x2,T2,P0,N7,Q2,Q4,Q3,T3,T4,L5,L7,L6,L8,L9,P9,A4,P8,G6,G7,G8,A5,a1o,H5,A8,T0,T1,K5,O7,O8,Option.map_some,Option.map_none,G9,A6,A1,u9,G3,G4,K7,K6,Q9,Q8,M1,H6,H7,M0,Q5,Q6,K8,v7,K9,v6,P4,H4,H3,p5,Q1,Q7,L4,P5,P7,P6,A3,C8,D0,C9,l9,Q0,T7,T6,P1,L2,X5,P2,v8,H1,H2,A7,H0,n0,x9,m8,y0,m0,N5,R0,R1,B8,B9,I4,I3,G2]) rfl (hp l[i] (List.getElem_mem h1)) ?_
     cases hpi:p l[i] with
     | true=>
      simp [S7,R6]
      rw [Z6 h1 hpi (fun k hk=>hne k hk (by omega))];rfl
     | false=>
      simp
      refine LoopNext.mk (i+1) ⟨by omega,fun k hk hk'=>?_⟩ (by omega) (Le.mk _ _ ?_ ?_)
      · by_cases e:k=i
        · subst e;exact hpi
        · exact hne k (by omega) hk'
      · simp [num];exact wrap_i64 (by omega) (by omega)
      · simp
   · have e:i=l.length:=by omega
     subst e
     simp [num,S7,R6]
     rw [Y3 (fun k hk=>hne k hk hk)]
theorem a73 (l:List LWire) (g:Nat) (c0_0 c0_1 c0_2 c0_3 c0_4 c0_5 c0_6 c0_7:RV) (p:LWire→Bool) (hl:l.length < 1099511627776) (hg:fnB Tryz.prog g=true)
 (hp:∀ x∈l,f8 Tryz.prog g [.val (p8 x),.box [c0_0,c0_1,c0_2,c0_3,c0_4,c0_5,c0_6,c0_7]] (.ret (.val (.bool (p x))) []) [[c0_0,c0_1,c0_2,c0_3,c0_4,c0_5,c0_6,c0_7]]) :
 f8 Tryz.prog 183 [.val (.list 7 (l.map p8)),.fn g [.box [c0_0,c0_1,c0_2,c0_3,c0_4,c0_5,c0_6,c0_7]]] (.ret (.val (num (a0v l p))) []) [[c0_0,c0_1,c0_2,c0_3,c0_4,c0_5,c0_6,c0_7]]:=by
 refine V3 mixed ok183 rfl (fun _=>rfl) ?_
 unfold ir183
 rw [b7]
 simp [i6,j3,j9,b8,f6,j9,j3]
 refine l3 (X:=Nat) (fun i=>⟨x5 [(0,.val (.list 7 (l.map p8))),(1,.fn g [.ptr 900 0]),(7,.val (num l.length)),(8,.val (num i))],x4 [(900,.box [.val c0_0,.val c0_1,.val c0_2,.val c0_3,.val c0_4,.val c0_5,.val c0_6,.val c0_7])]⟩) (fun i=>i≤l.length∧∀ k (hk:k < i) (hk':k < l.length),p l[k]=false) (fun i=>l.length - i) 0 (Le.mk _ _ ?_ ?_) ?_ ?_
 · simp [upd,num]
 · simp
 · simp
 · rintro i ⟨hi,hne⟩
   simp [num]
   refine j1 (fun h1=>?_) (fun h1=>?_)
   · have e1:(l.map p8)[i]?.getD .nilptr=p8 l[i]:=by simp [List.getElem?_eq_getElem h1]
     simp [num,h1,e1,p8,tx,num,hg]
     refine U0 (ids:=[900]) rfl rfl (by simp) (by decide) (by simp [a2g,B0,I1,B2,H9,B3,x1,B1,I0,p9,D1,J5,J6,l5,w5,w6,o0,B4,w9,p6,H8,A9,w8,w7,G0,G1,a1i,a1j,Option.getD_some,Option.getD_none,E7,x7,u7,F7,u6,u0,F9,u1,F8,F6,F5,K2,z8,u4,F3,z6,u3,F2,E5,F4,z7,F0,t8,z1,F1,K4,K3,E6,E8,u2,E9,A0,u5,D4,q8,E4,E3,E2,J7,y8,s8,D9,y6,q9,D8,D2,E1,y7,D6,q7,y5,D7,J9,J8,D3,y4,t7,D5,y9,t6,M3,M2,N4,M4,M8,M6,M5,N3,M7,M9,N0,N1,N2,B7,B6,B5,O5,O6,C7,I2,x8,G5,A2,N6,x2,T2,P0,N7,Q2,Q4,Q3,T3,T4,L5,L7,L6,L8,L9,P9,A4,P8,G6,G7,G8,A5,a1o,H5,A8,T0,T1,K5,O7,O8,Option.map_some,Option.map_none,G9,A6,A1,u9,G3,G4,K7,K6,Q9,Q8,M1,H6,H7,M0,Q5,Q6,K8,v7,K9,v6,P4,H4,H3,p5,Q1,Q7,L4,P5,P7,P6,A3,C8,D0,C9,l9,Q0,T7,T6,P1,L2,X5,P2,v8,H1,H2,A7,H0,n0,x9,m8,y0,m0,N5,R0,R1,B8,B9,I4,I3,G2]) rfl (hp l[i] (List.getElem_mem h1)) ?_
     cases hpi:p l[i] with
     | true=>
      simp [S7,R6]
      rw [Z6 h1 hpi (fun k hk=>hne k hk (by omega))];rfl
     | false=>
      simp
      refine LoopNext.mk (i+1) ⟨by omega,fun k hk hk'=>?_⟩ (by omega) (Le.mk _ _ ?_ ?_)
      · by_cases e:k=i
        · subst e;exact hpi
        · exact hne k (by omega) hk'
      · simp [num];exact wrap_i64 (by omega) (by omega)
      · simp
   · have e:i=l.length:=by omega
     subst e
     simp [num,S7,R6]
     rw [Y3 (fun k hk=>hne k hk hk)]
theorem a52 (l:List LWire) (g:Nat) (c0_0 c0_1 c0_2 c0_3 c0_4 c0_5 c0_6 c0_7:RV) (p:LWire→Bool) (hl:l.length < 1099511627776) (hg:fnB Tryz.prog g=true)
 (hp:∀ x∈l,f8 Tryz.prog g [.val (p8 x),.box [c0_0,c0_1,c0_2,c0_3,c0_4,c0_5,c0_6,c0_7]] (.ret (.val (.bool (p x))) []) [[c0_0,c0_1,c0_2,c0_3,c0_4,c0_5,c0_6,c0_7]]) :
 f8 Tryz.prog 117 [.val (.list 7 (l.map p8)),.fn g [.box [c0_0,c0_1,c0_2,c0_3,c0_4,c0_5,c0_6,c0_7]]] (.ret (.val (.bool (l.any p))) []) [[c0_0,c0_1,c0_2,c0_3,c0_4,c0_5,c0_6,c0_7]]:=by
 refine V3 mixed ok117 rfl (fun _=>rfl) ?_
 unfold ir117
 rw [b7]
 simp [i6,j3,j9,b8,f6,j9,j3]
 refine U0 (ids:=[900]) rfl rfl (by simp) (by decide) (by simp [a2g,B0,I1,B2,H9,B3,x1,B1,I0,p9,D1,J5,J6,l5,w5,w6,o0,B4,w9,p6,H8,A9,w8,w7,G0,G1,a1i,a1j,Option.getD_some,Option.getD_none,E7,x7,u7,F7,u6,u0,F9,u1,F8,F6,F5,K2,z8,u4,F3,z6,u3,F2,E5,F4,z7,F0,t8,z1,F1,K4,K3,E6,E8,u2,E9,A0,u5,D4,q8,E4,E3,E2,J7,y8,s8,D9,y6,q9,D8,D2,E1,y7,D6,q7,y5,D7,J9,J8,D3,y4,t7,D5,y9,t6,M3,M2,N4,M4,M8,M6,M5,N3,M7,M9,N0,N1,N2,B7,B6,B5,O5,O6,C7,I2,x8,G5,A2,N6,x2,T2,P0,N7,Q2,Q4,Q3,T3,T4,L5,L7,L6,L8,L9,P9,A4,P8,G6,G7,G8,A5,a1o,H5,A8,T0,T1,K5,O7,O8,Option.map_some,Option.map_none,G9,A6,A1,u9,G3,G4,K7,K6,Q9,Q8,M1,H6,H7,M0,Q5,Q6,K8,v7,K9,v6,P4,H4,H3,p5,Q1,Q7,L4,P5,P7,P6,A3,C8,D0,C9,l9,Q0,T7,T6,P1,L2,X5,P2,v8,H1,H2,A7,H0,n0,x9,m8,y0,m0,N5,R0,R1,B8,B9,I4,I3,G2]) rfl (a73 l g c0_0 c0_1 c0_2 c0_3 c0_4 c0_5 c0_6 c0_7 p hl hg hp) ?_
 simp [num,S7,R6]
 exact a4l l p
end Go.Proofs
end
section
namespace Go.Proofs
open Go.PW Go.KP
attribute [local simp] RV.cells RV.one PV.cells PV.solid PV.one x6 j2 J4 I7 RV.ofCells elems PV.killL
variable [GH]
theorem b79 (t:Tx):f8 Tryz.prog 243 [.val (tx t)] (.ret (.val (.bool (decide (1≤t.length∧t.length≤8000)))) []) []:=by
 have q:(1≤t.length∧t.length≤8000)↔((1:Int)≤t.length∧(t.length:Int)≤8000):=by omega
 have e:decide (1≤t.length∧t.length≤8000)=decide ((1:Int)≤t.length∧(t.length:Int)≤8000):=decide_eq_decide.2 q
 rw [e]
 have h:=R4 t.length 1 8000
 refine i7 mixed ok243 rfl (fun _=>rfl) ?_
 unfold ir243
 rw [b7]
 simp [i6,j3,j9,b8,f6,tx,b9,num]
 refine b6 rfl rfl (.inl rfl) h ?_
 simp
theorem b3y (r:LReport) (b1 b2 b3 b4:Bool) (h1:f8 Tryz.prog 114 [.val (num r.id),.val (num 1),.val (num 1000000)] (.ret (.val (.bool b1)) []) []) (h2:f8 Tryz.prog 114 [.val (num r.born),.val (num 0),.val (num 1000000)] (.ret (.val (.bool b2)) []) [])
 (h3:f8 Tryz.prog 114 [.val (num r.tries),.val (num 0),.val (num 3)] (.ret (.val (.bool b3)) []) []) (h4:f8 Tryz.prog 243 [.val (tx r.body)] (.ret (.val (.bool b4)) []) []) :
 f8 Tryz.prog 242 [.val (j8 r)] (.ret (.val (.bool (b1 && b2 && b3 && b4))) []) []:=by
 refine i7 mixed ok242 rfl (fun _=>rfl) ?_
 unfold ir242
 rw [b7]
 simp [i6,j3,j9,b8,f6,j8,tx,num]
 refine b6 rfl rfl (.inl rfl) h1 ?_
 cases b1 with
 | false=>simp
 | true=>
  simp [num]
  refine b6 rfl rfl (.inl rfl) h2 ?_
  cases b2 with
  | false=>simp
  | true=>
   simp [num]
   refine b6 rfl rfl (.inl rfl) h3 ?_
   cases b3 with
   | false=>simp
   | true=>
    simp [num]
    refine b6 rfl rfl (.inl rfl) h4 ?_
    cases b4<;>simp
theorem c0r (r:LReport):f8 Tryz.prog 242 [.val (j8 r)] (.ret (.val (.bool (Y9 r))) []) []:=
 b3y r _ _ _ _ (R4 r.id 1 1000000) (R4 r.born 0 1000000) (R4 r.tries 0 3) (b79 r.body)
theorem c0n (n:Int):f8 Tryz.prog 184 [.val (num n)] (.ret (.val (.bool (decide (100≤n∧n≤599)))) []) []:=by
 refine i7 mixed ok184 rfl (fun _=>rfl) ?_
 unfold ir184
 rw [b7]
 have h:=R4 n 100 599
 simp [i6,j3,j9,b8,f6,num]
 refine b6 rfl rfl (.inl rfl) h ?_
 simp
theorem c4b (q:LQueue) (hb:a14 1048576 q):f8 Tryz.prog 178 [.val (C3 q)] (.ret (.val (.bool (T9 q))) []) []:=by
 refine i7 mixed ok178 rfl (fun _=>rfl) ?_
 unfold ir178
 rw [b7]
 by_cases h5:q.items.length≤5
 rotate_left
 · have h5':(5:Int) < q.items.length:=by omega
   have:T9 q=false:=by unfold T9;rw [decide_eq_false h5];rfl
   simp [i6,j3,j9,b8,f6,C3,h5',this]
 have h5':¬ (5:Int) < q.items.length:=by omega
 by_cases h6:q.recent.length≤6
 rotate_left
 · have h6':(6:Int) < q.recent.length:=by omega
   have:T9 q=false:=by unfold T9;rw [decide_eq_false h6];simp
   simp [i6,j3,j9,b8,f6,C3,h5',h6',this]
 have h6':¬ (6:Int) < q.recent.length:=by omega
 have hfin:Z9 q.items.length (a4j q.items)=true→Z9 q.recent.length (a7i q.recent)=true→T9 q=true:=fun a b=>by
  unfold T9;rw [decide_eq_true h5,decide_eq_true h6,a,b];rfl
 simp [i6,j3,j9,b8,f6,C3,h5',h6']
 refine l3 (X:=Nat) (fun i=>⟨x5 [(1,.ptr 1 0),(18,.val (.list 4 (q.items.map j8))),(19,.val (num q.items.length)),(20,.val (num i))],x4 [(1,.box [.val (.list 4 (q.items.map j8)),.val (.list 1 (q.recent.map tx))])]⟩) (fun i=>i≤q.items.length∧Z9 i (a4j q.items)=true) (fun i=>q.items.length - i) 0 (Le.mk _ _ ?_ ?_) ?_ ?_
 · simp [upd,num]
 · simp
 · simp [a0x]
 · rintro i ⟨hi,hall⟩
   simp [num]
   refine j1 (fun h1=>?_) (fun h1=>?_)
   · have C2:=a81 (q:=q) h1
     have hsu:=a0l (a4j q.items) i
     rw [hall,Bool.true_and] at hsu
     obtain ⟨r,hr⟩:∃ r,q.items[i]=r:=⟨_,rfl⟩
     have hR:=c0r r
     have wi:IntKind.i64.wrap ((i:Int)+1)=((i+1:Nat):Int):=by rw [wrap_i64 (by omega) (by omega)];omega
     by_cases h0:i=0
     · subst h0
       rw [b14 h1,hr] at C2 hsu
       simp [num,h1,hr,j8,tx,PV.kill,MObj.kill]
       refine p7 rfl rfl (.inl rfl) hR ?_
       cases hk:Y9 r with
       | false=>simp [C2 hk]
       | true=>
        simp [num]
        refine LoopNext.mk 1 ⟨by omega,by rw [hsu,hk]⟩ (by omega) (Le.mk _ _ ?_ ?_)
        · simp [num,upd,PV.kill];decide
        · simp [tx,PV.kill,MObj.kill]
     · obtain ⟨j,hij⟩:∃ j,i=j+1:=⟨i - 1,by omega⟩
       have hj:j < q.items.length:=by omega
       obtain ⟨s,hs⟩:∃ s,q.items[j]=s:=⟨_,rfl⟩
       have hra:a4j q.items i=(Y9 r && (decide (s.id < r.id) && decide (s.born≤r.born))):=by
        subst hij;rw [b15 h1,hr,hs]
       rw [hra] at C2 hsu
       have wj:IntKind.i64.wrap ((i:Int) - 1)=(j:Int):=by rw [wrap_i64 (by omega) (by omega)];omega
       have hp:0 < i:=by omega
       simp [num,h1,hr,j8,tx,PV.kill,MObj.kill]
       refine p7 rfl rfl (.inl rfl) hR ?_
       cases hk:Y9 r with
       | false=>simp [C2 (by rw [hk];rfl)]
       | true=>
        rw [hk,Bool.true_and] at C2 hsu
        by_cases hA:s.id < r.id
        · have hA':¬ r.id≤s.id:=by omega
          by_cases hB:s.born≤r.born
          · have hB':¬ r.born < s.born:=by omega
            simp [num,h1,hr,hs,hj,hp,wj,j8,tx,PV.kill,MObj.kill,hA',hB']
            refine LoopNext.mk (i+1) ⟨by omega,by rw [hsu,decide_eq_true hA,decide_eq_true hB];rfl⟩ (by omega) (Le.mk _ _ ?_ ?_)
            · simp [num,wi,PV.kill]
            · simp [tx,PV.kill,MObj.kill]
          · have hB':r.born < s.born:=by omega
            simp [num,h1,hr,hs,hj,hp,wj,j8,tx,PV.kill,MObj.kill,hA',hB',C2 (by rw [decide_eq_false hB,Bool.and_false])]
        · have hA':r.id≤s.id:=by omega
          simp [num,h1,hr,hs,hj,hp,wj,j8,tx,PV.kill,MObj.kill,hA',C2 (by rw [decide_eq_false hA,Bool.false_and])]
   · have e:i=q.items.length:=by omega
     subst e
     simp [num]
     refine l3 (X:=Nat) (fun i=>⟨x5 [(1,.ptr 1 0),(58,.val (.list 1 (q.recent.map tx))),(59,.val (num q.recent.length)),(60,.val (num i))],x4 [(1,.box [.val (.list 4 (q.items.map j8)),.val (.list 1 (q.recent.map tx))])]⟩) (fun i=>i≤q.recent.length∧Z9 i (a7i q.recent)=true) (fun i=>q.recent.length - i) 0 (Le.mk _ _ ?_ ?_) ?_ ?_
     · simp [upd,num]
     · simp
     · simp [a0x]
     · rintro i ⟨hi2,hall2⟩
       simp [num]
       refine j1 (fun h1=>?_) (fun h1=>?_)
       · have C2:=a82 (q:=q) h1
         have hsu:=a0l (a7i q.recent) i
         rw [hall2,Bool.true_and] at hsu
         rw [b7f h1] at C2 hsu
         obtain ⟨r,hr⟩:∃ r,q.recent[i]=r:=⟨_,rfl⟩
         rw [hr] at C2 hsu
         have hR:=b79 r
         have hH:=a36 (q.recent.take i) r (by simp;omega)
         have wi:IntKind.i64.wrap ((i:Int)+1)=((i+1:Nat):Int):=by rw [wrap_i64 (by omega) (by omega)];omega
         have hile:i≤q.recent.length:=by omega
         simp [num,h1,hr,tx,b9]
         refine b6 rfl rfl (.inl rfl) hR ?_
         cases hk:decide (1≤r.length∧r.length≤8000) with
         | false=>simp [C2 (by rw [hk];rfl)]
         | true=>
          rw [hk,Bool.true_and] at C2 hsu
          simp [num,h1,hr,tx,hile,← List.map_take]
          refine b6 rfl rfl (.inl rfl) hH ?_
          by_cases hm:r∈q.recent.take i
          · simp [hm,C2 (by rw [decide_eq_false (fun h=>h hm)])]
          · simp [hm]
            refine LoopNext.mk (i+1) ⟨by omega,by rw [hsu,decide_eq_true hm]⟩ (by omega) (Le.mk _ _ ?_ ?_)
            · simp [num,wi]
            · simp [tx]
       · have e:i=q.recent.length:=by omega
         subst e
         simp [hfin hall hall2]
def a9m (p:LPipe):List RV:=[.list 6 (p.channels.map j5),tx p.policy.reportTo,.list 1 (p.policy.uris.map tx),.list 2 (p.policy.rules.map l4),num p.now,num p.next,.list 3 (p.log.map J0),.list 7 (p.wires.map p8)]
theorem c39 (r:LReport) (p:LPipe):f8 Tryz.prog 180 [.val (j8 r),.box (a9m p)] (.ret (.val (.bool (!(decide (r.id < p.next) && decide (r.born≤p.now))))) []) [a9m p]:=by
 unfold a9m
 refine V3 mixed ok180 rfl (fun _=>rfl) ?_
 unfold ir180
 rw [b7]
 by_cases hA:r.id < p.next
 · have hA':¬ p.next≤r.id:=by omega
   by_cases hB:r.born≤p.now
   · have hB':¬ p.now < r.born:=by omega
     simp [i6,j3,j9,b8,f6,j8,tx,num,hA,hA',hB,hB',S7,R6]
   · have hB':p.now < r.born:=by omega
     simp [i6,j3,j9,b8,f6,j8,tx,num,hA,hA',hB,hB',S7,R6]
 · have hA':p.next≤r.id:=by omega
   simp [i6,j3,j9,b8,f6,j8,tx,num,hA,hA',S7,R6]
end Go.Proofs
end
section
namespace Go.Proofs
open Go.PW Go.KP
attribute [local simp] RV.cells RV.one PV.cells PV.solid PV.one x6 j2 J4 I7 RV.ofCells elems PV.killL
variable [GH]
theorem b2t (a b:List LTarget) (ha:a.length < 1099511627776) (hb:b.length < 1099511627776):f8 Tryz.prog 176 [.val (.list 3 (a.map j4)),.val (.list 3 (b.map j4))] (.ret (.val (.bool (decide (a=b)))) []) []:=by
 refine i7 mixed ok176 rfl (fun _=>rfl) ?_
 unfold ir176
 rw [b7]
 by_cases hlen:a.length=b.length
 rotate_left
 · have h1:¬ (a.length:Int)=b.length:=by omega
   have h2:a≠b:=fun e=>hlen (by rw [e])
   simp [i6,j3,j9,b8,f6,h1,h2]
 simp [i6,j3,j9,b8,f6,num,hlen]
 refine l3 (X:=Nat) (fun i=>⟨x5 [(0,.val (.list 3 (a.map j4))),(1,.val (.list 3 (b.map j4))),(12,.val (num b.length)),(13,.val (num i))],x4 []⟩) (fun i=>i≤b.length∧a.take i=b.take i) (fun i=>b.length - i) 0 (Le.mk _ _ ?_ ?_) ?_ ?_
 · simp [upd,num]
 · simp
 · simp
 · rintro i ⟨hi,heq⟩
   simp [num]
   refine j1 (fun h1b=>?_) (fun h1=>?_)
   · have h1:i < a.length:=by omega
     obtain ⟨x,hx⟩:∃ x,a[i]=x:=⟨_,rfl⟩
     obtain ⟨y,hy⟩:∃ y,b[i]=y:=⟨_,rfl⟩
     have hne:x≠y→a≠b:=fun h e=>h (by subst e;rw [← hx,← hy])
     have wi:IntKind.i64.wrap ((i:Int)+1)=((i+1:Nat):Int):=by rw [wrap_i64 (by omega) (by omega)];omega
     by_cases hu:x.url=y.url
     · by_cases hp:x.prio=y.prio
       · by_cases hw:x.weight=y.weight
         · have hxy:x=y:=by
            cases x;cases y
            simp only at hu hp hw
            subst hu;subst hp;subst hw;rfl
           simp [num,h1,h1b,hx,hy,j4,tx,N9,a3t,a25,I6,hu,hp,hw]
           refine LoopNext.mk (i+1) ⟨by omega,?_⟩ (by omega) (Le.mk _ _ ?_ ?_)
           · rw [List.take_add_one,List.take_add_one,List.getElem?_eq_getElem h1,List.getElem?_eq_getElem h1b,heq,hx,hy,hxy]
           · simp [num,wi]
           · simp
         · simp [num,h1,h1b,hx,hy,j4,tx,N9,a3t,a25,I6,hu,hp,hw,hne (fun e=>hw (by rw [e]))]
       · simp [num,h1,h1b,hx,hy,j4,tx,N9,a3t,a25,I6,hu,hp,hne (fun e=>hp (by rw [e]))]
     · simp [num,h1,h1b,hx,hy,j4,tx,N9,a3t,a25,I6,hu,hne (fun e=>hu (by rw [e]))]
   · have e:i=b.length:=by omega
     subst e
     rw [← hlen,List.take_length,hlen,List.take_length] at heq
     simp [heq]
theorem c0p (c:LChannel) (name:Tx):f8 Tryz.prog 182 [.val (j5 c),.box [tx name]] (.ret (.val (.bool (decide (c.group.name=name)))) []) [[tx name]]:=by
 refine V3 mixed ok182 rfl (fun _=>rfl) ?_
 unfold ir182
 rw [b7]
 simp [i6,j3,j9,b8,f6,j5,tx,num,I6,S7,R6]
theorem c38 (p:LPipe) (name:Tx) (hl:p.channels.length < 1099511627776):f8 Tryz.prog 116 [.val (C5 p),.val (tx name)] (.ret (.val (num (a0v p.channels fun c=>decide (c.group.name=name)))) []) []:=by
 have h:=a50 p.channels 182 (tx name) (fun c=>decide (c.group.name=name)) hl (by kernel_rfl) (fun c _=>c0p c name)
 refine i7 mixed ok116 rfl (fun _=>rfl) ?_
 unfold ir116
 rw [b7]
 simp [i6,j3,j9,b8,f6,C5,tx,num]
 refine U0 (ids:=[3]) rfl rfl (by simp) (by decide) (by simp [a2g,B0,I1,B2,H9,B3,x1,B1,I0,p9,D1,J5,J6,l5,w5,w6,o0,B4,w9,p6,H8,A9,w8,w7,G0,G1,a1i,a1j,Option.getD_some,Option.getD_none,E7,x7,u7,F7,u6,u0,F9,u1,F8,F6,F5,K2,z8,u4,F3,z6,u3,F2,E5,F4,z7,F0,t8,z1,F1,K4,K3,E6,E8,u2,E9,A0,u5,D4,q8,E4,E3,E2,J7,y8,s8,D9,y6,q9,D8,D2,E1,y7,D6,q7,y5,D7,J9,J8,D3,y4,t7,D5,y9,t6,M3,M2,N4,M4,M8,M6,M5,N3,M7,M9,N0,N1,N2,B7,B6,B5,O5,O6,C7,I2,x8,G5,A2,N6,x2,T2,P0,N7,Q2,Q4,Q3,T3,T4,L5,L7,L6,L8,L9,P9,A4,P8,G6,G7,G8,A5,a1o,H5,A8,T0,T1,K5,O7,O8,Option.map_some,Option.map_none,G9,A6,A1,u9,G3,G4,K7,K6,Q9,Q8,M1,H6,H7,M0,Q5,Q6,K8,v7,K9,v6,P4,H4,H3,p5,Q1,Q7,L4,P5,P7,P6,A3,C8,D0,C9,l9,Q0,T7,T6,P1,L2,X5,P2,v8,H1,H2,A7,H0,n0,x9,m8,y0,m0,N5,R0,R1,B8,B9,I4,I3,G2,tx]) rfl h ?_
 simp
theorem b8a (p:LPipe) (c:LChannel) (hb:T8 1048576 c):f8 Tryz.prog 115 [.val (C5 p),.val (j5 c)] (.ret (.val (.bool (S3 p.next p.now c))) []) []:=by
 have hG:=c4e c.group hb.1
 have hpl:c.peers.length≤1048576:=hb.2.1.1
 have htl:c.group.targets.length≤1048576:=hb.1.2.1
 have hql:c.queue.items.length≤1048576:=hb.2.2.1.1
 have hP:=c4d c.peers (by omega) (fun x hx=>by have:=hb.2.1.2 x hx;unfold a1b V1 at this;omega)
 have hT:=b0x c.peers (by omega)
 have hE:=b2t (tgs c.peers) c.group.targets (by simp [tgs];omega) (by omega)
 have hQ:=c4b c.queue hb.2.2
 have hC:=a45 c.queue.items 180 (.list 6 (p.channels.map j5)) (tx p.policy.reportTo) (.list 1 (p.policy.uris.map tx)) (.list 2 (p.policy.rules.map l4)) (num p.now) (num p.next) (.list 3 (p.log.map J0)) (.list 7 (p.wires.map p8)) (fun r=>!(decide (r.id < p.next) && decide (r.born≤p.now))) (by omega) (by kernel_rfl) (fun r _=>c39 r p)
 have hch:S3 p.next p.now c=(a2p c.group && Z5 c.peers && decide (tgs c.peers=c.group.targets) && T9 c.queue && !(c.queue.items.any fun r=>!(decide (r.id < p.next) && decide (r.born≤p.now)))):=by
  unfold S3 tgs
  rw [List.not_any_eq_all_not]
  simp only [Bool.not_not]
 rw [hch]
 refine i7 mixed ok115 rfl (fun _=>rfl) ?_
 unfold ir115
 rw [b7]
 simp [i6,j3,j9,b8,f6,C5,j5,tx,num]
 refine p7 rfl rfl (.inl rfl) hG ?_
 cases a2p c.group with
 | false=>simp
 | true=>
 simp [num]
 refine p7 rfl rfl (.inl rfl) hP ?_
 cases Z5 c.peers with
 | false=>simp
 | true=>
 simp [num]
 refine p7 rfl rfl (.inl rfl) hT ?_
 simp [num]
 refine p7 rfl rfl (.inl rfl) hE ?_
 cases decide (tgs c.peers=c.group.targets) with
 | false=>simp
 | true=>
 simp [num]
 refine p7 rfl rfl (.inl rfl) hQ ?_
 cases T9 c.queue with
 | false=>simp
 | true=>
 simp [num]
 refine U0 (ids:=[2]) rfl rfl (by simp) (by decide) (by simp [a2g,B0,I1,B2,H9,B3,x1,B1,I0,p9,D1,J5,J6,l5,w5,w6,o0,B4,w9,p6,H8,A9,w8,w7,G0,G1,a1i,a1j,Option.getD_some,Option.getD_none,E7,x7,u7,F7,u6,u0,F9,u1,F8,F6,F5,K2,z8,u4,F3,z6,u3,F2,E5,F4,z7,F0,t8,z1,F1,K4,K3,E6,E8,u2,E9,A0,u5,D4,q8,E4,E3,E2,J7,y8,s8,D9,y6,q9,D8,D2,E1,y7,D6,q7,y5,D7,J9,J8,D3,y4,t7,D5,y9,t6,M3,M2,N4,M4,M8,M6,M5,N3,M7,M9,N0,N1,N2,B7,B6,B5,O5,O6,C7,I2,x8,G5,A2,N6,x2,T2,P0,N7,Q2,Q4,Q3,T3,T4,L5,L7,L6,L8,L9,P9,A4,P8,G6,G7,G8,A5,a1o,H5,A8,T0,T1,K5,O7,O8,Option.map_some,Option.map_none,G9,A6,A1,u9,G3,G4,K7,K6,Q9,Q8,M1,H6,H7,M0,Q5,Q6,K8,v7,K9,v6,P4,H4,H3,p5,Q1,Q7,L4,P5,P7,P6,A3,C8,D0,C9,l9,Q0,T7,T6,P1,L2,X5,P2,v8,H1,H2,A7,H0,n0,x9,m8,y0,m0,N5,R0,R1,B8,B9,I4,I3,G2,tx,num]) rfl hC ?_
 simp
theorem b6x (p:LPipe) (w:LWire) (b1 b2 b3 b5:Bool) (hn:1≤p.next∧p.next≤1000000) (hil:w.ids.length≤1048576) (h1:f8 Tryz.prog 114 [.val (num w.at_),.val (num 0),.val (num p.now)] (.ret (.val (.bool b1)) []) [])
 (h2:f8 Tryz.prog 184 [.val (num w.status)] (.ret (.val (.bool b2)) []) []) (h3:f8 Tryz.prog 185 [.val (tx w.group)] (.ret (.val (.bool b3)) []) [])
 (h5:f8 Tryz.prog 114 [.val (num w.ids.length),.val (num 1),.val (num 3)] (.ret (.val (.bool b5)) []) []) :
 f8 Tryz.prog 119 [.val (C5 p),.val (p8 w)] (.ret (.val (.bool (b1 && b2 && b3 && decide (w.url.length≤100) && b5 && decide (w.body.length≤65536) && Z9 w.ids.length (a4w p.next w.ids)))) []) []:=by
 refine i7 mixed ok119 rfl (fun _=>rfl) ?_
 unfold ir119
 rw [b7]
 simp [i6,j3,j9,b8,f6,C5,p8,tx,num]
 refine b6 rfl rfl (.inl rfl) h1 ?_
 cases b1 with
 | false=>simp
 | true=>
 simp [num]
 refine b6 rfl rfl (.inl rfl) h2 ?_
 cases b2 with
 | false=>simp
 | true=>
 simp [num]
 refine b6 rfl rfl (.inl rfl) h3 ?_
 cases b3 with
 | false=>simp
 | true=>
 by_cases hu:w.url.length≤100
 rotate_left
 · have hu':(100:Int) < w.url.length:=by omega
   simp [num,b9,hu',hu]
 have hu':¬ (100:Int) < w.url.length:=by omega
 simp [num,b9,hu',hu]
 refine b6 rfl rfl (.inl rfl) h5 ?_
 cases b5 with
 | false=>simp
 | true=>
 by_cases hy:w.body.length≤65536
 rotate_left
 · have hy':(65536:Int) < w.body.length:=by omega
   simp [num,b9,hy',hy]
 have hy':¬ (65536:Int) < w.body.length:=by omega
 simp [num,b9,hy',hy]
 have wn:IntKind.i64.wrap (p.next - 1)=p.next - 1:=wrap_i64 (by omega) (by omega)
 refine l3 (X:=Nat) (fun i=>⟨x5 [(2,.ptr 2 0),(3,.ptr 3 0),(45,.val (.list 1 (w.ids.map num))),(46,.val (num w.ids.length)),(47,.val (num i))],x4 [(2,U9 p),(3,b3s w)]⟩) (fun i=>i≤w.ids.length∧Z9 i (a4w p.next w.ids)=true) (fun i=>w.ids.length - i) 0 (Le.mk _ _ ?_ ?_) ?_ ?_
 · simp [upd,num,PV.kill]
 · simp [U9,b3s,tx,num,MObj.kill,PV.kill]
 · simp [a0x]
 · rintro i ⟨hi,hall⟩
   simp [num,b3s]
   refine j1 (fun hlt=>?_) (fun hlt=>?_)
   · have C2:a4w p.next w.ids i=false→Z9 w.ids.length (a4w p.next w.ids)=false:=a3o hlt
     have hsu:=a0l (a4w p.next w.ids) i
     rw [hall,Bool.true_and] at hsu
     obtain ⟨r,hr⟩:∃ r,w.ids[i]=r:=⟨_,rfl⟩
     have hR:=R4 r 1 (p.next - 1)
     have wi:IntKind.i64.wrap ((i:Int)+1)=((i+1:Nat):Int):=by rw [wrap_i64 (by omega) (by omega)];omega
     by_cases h0:i=0
     · subst h0
       rw [b4j hlt,hr] at C2 hsu
       simp [num,hlt,hr,tx,U9,wn]
       refine b6 rfl rfl (.inl rfl) hR ?_
       cases hk:decide (1≤r∧r≤p.next - 1) with
       | false=>simp [C2 hk]
       | true=>
        simp [num]
        refine LoopNext.mk 1 ⟨by omega,by rw [hsu,hk]⟩ (by omega) (Le.mk _ _ ?_ ?_)
        · simp [num,upd];decide
        · simp [tx,U9,b3s,num]
     · obtain ⟨j,hij⟩:∃ j,i=j+1:=⟨i - 1,by omega⟩
       have hj:j < w.ids.length:=by omega
       obtain ⟨s,hs⟩:∃ s,w.ids[j]=s:=⟨_,rfl⟩
       have hra:a4w p.next w.ids i=(decide (1≤r∧r≤p.next - 1) && decide (s < r)):=by
        subst hij;rw [b4k hlt,hr,hs]
       rw [hra] at C2 hsu
       have wj:IntKind.i64.wrap ((i:Int) - 1)=(j:Int):=by rw [wrap_i64 (by omega) (by omega)];omega
       have hp:0 < i:=by omega
       simp [num,hlt,hr,tx,U9,wn]
       refine b6 rfl rfl (.inl rfl) hR ?_
       cases hk:decide (1≤r∧r≤p.next - 1) with
       | false=>simp [C2 (by rw [hk];rfl)]
       | true=>
        rw [hk,Bool.true_and] at C2 hsu
        by_cases hA:s < r
        · have hA':¬ r≤s:=by omega
          simp [num,hlt,hr,hs,hj,hp,wj,tx,hA']
          refine LoopNext.mk (i+1) ⟨by omega,by rw [hsu,decide_eq_true hA]⟩ (by omega) (Le.mk _ _ ?_ ?_)
          · simp [num,wi]
          · simp [tx,U9,b3s,num]
        · have hA':r≤s:=by omega
          simp [num,hlt,hr,hs,hj,hp,wj,tx,hA',C2 (decide_eq_false hA)]
   · have e:i=w.ids.length:=by omega
     subst e
     simp [hall,hu,hy]
theorem c6u (p:LPipe) (w:LWire) (hn:1≤p.next∧p.next≤1000000) (hb:a0t 1048576 w):f8 Tryz.prog 119 [.val (C5 p),.val (p8 w)] (.ret (.val (.bool (W3 p.next p.now w))) []) []:=by
 have hgl:w.group.length≤1048576:=hb.1
 have hil:w.ids.length≤1048576:=hb.2.2.1
 have q:(1≤w.ids.length∧w.ids.length≤3)↔((1:Int)≤w.ids.length∧(w.ids.length:Int)≤3):=by omega
 unfold W3
 rw [decide_eq_decide.2 q]
 exact b6x p w _ _ _ _ hn hil (R4 w.at_ 0 p.now) (c0n w.status) (b2s w.group (by omega)) (R4 w.ids.length 1 3)
end Go.Proofs
end
section
namespace Go.Proofs
open Go.PW Go.KP
attribute [local simp] RV.cells RV.one PV.cells PV.solid PV.one x6 j2 J4 I7 RV.ofCells elems PV.killL
variable [GH]
theorem c4c (w:LWire) (p:LPipe) (hn:1≤p.next∧p.next≤1000000) (hb:a0t 1048576 w):f8 Tryz.prog 118 [.val (p8 w),.box (a9m p)] (.ret (.val (.bool (!W3 p.next p.now w))) []) [a9m p]:=by
 have hW:=c6u p w hn hb
 unfold a9m
 refine V3 mixed ok118 rfl (fun _=>rfl) ?_
 unfold ir118
 rw [b7]
 simp [i6,j3,j9,b8,f6,p8,tx,num]
 refine b6 rfl rfl (.inl rfl) hW ?_
 simp [num,tx,S7,R6]
theorem c62 (p:LPipe) (hb:a0y 1048576 p):f8 Tryz.prog 61 [.val (C5 p)] (.ret (.val (.bool (J2 p))) []) []:=by
 have hcl:p.channels.length≤1048576:=hb.1.1
 have hP:=c0s p.policy hb.2.1
 have hN:=i_isNow p.now
 have hX:=R4 p.next 1 1000000
 refine i7 mixed ok61 rfl (fun _=>rfl) ?_
 unfold ir61
 rw [b7]
 by_cases h5:p.channels.length≤5
 rotate_left
 · have h5':(5:Int) < p.channels.length:=by omega
   have hf:J2 p=false:=by unfold J2;rw [decide_eq_false h5];rfl
   simp [i6,j3,j9,b8,f6,C5,tx,num,h5',hf]
 have h5':¬ (5:Int) < p.channels.length:=by omega
 simp [i6,j3,j9,b8,f6,C5,tx,num,h5']
 refine b6 rfl rfl (.inl rfl) hP ?_
 cases hpol:Y2 p.policy with
 | false=>
  have hf:J2 p=false:=by unfold J2;rw [hpol];simp
  simp [hf]
 | true=>
 simp [num]
 refine b6 rfl rfl (.inl rfl) hN ?_
 cases hnow:decide (0≤p.now∧p.now≤1000000) with
 | false=>
  have hf:J2 p=false:=by unfold J2;rw [hnow];simp
  simp [hf]
 | true=>
 simp [num]
 refine b6 rfl rfl (.inl rfl) hX ?_
 cases hnext:decide (1≤p.next∧p.next≤1000000) with
 | false=>
  have hf:J2 p=false:=by unfold J2;rw [hnext];simp
  simp [hf]
 | true=>
 by_cases hll:p.log.length≤4096
 rotate_left
 · have hll':(4096:Int) < p.log.length:=by omega
   have hf:J2 p=false:=by unfold J2;rw [decide_eq_false hll];simp
   simp [num,hll',hf]
 have hll':¬ (4096:Int) < p.log.length:=by omega
 by_cases hwl:p.wires.length≤4096
 rotate_left
 · have hwl':(4096:Int) < p.wires.length:=by omega
   have hf:J2 p=false:=by unfold J2;rw [decide_eq_false hwl];simp
   simp [num,hll',hwl',hf]
 have hwl':¬ (4096:Int) < p.wires.length:=by omega
 have hpk:J2 p=(Z9 p.channels.length (a2u p) && Z9 p.log.length (a3m p.next p.now p.log) && p.wires.all (W3 p.next p.now)):=by
  unfold J2;rw [decide_eq_true h5,hpol,hnow,hnext,decide_eq_true hll,decide_eq_true hwl];simp
 have hn2:1≤p.next∧p.next≤1000000:=of_decide_eq_true hnext
 have wn:IntKind.i64.wrap (p.next - 1)=p.next - 1:=wrap_i64 (by omega) (by omega)
 have hpk2:J2 p=(Z9 p.channels.length (a2u p) && Z9 p.log.length (a3m p.next p.now p.log) && !(p.wires.any fun w=>!W3 p.next p.now w)):=by
  rw [hpk,List.not_any_eq_all_not]
  simp only [Bool.not_not]
 have hC:=a52 p.wires 118 (.list 6 (p.channels.map j5)) (tx p.policy.reportTo) (.list 1 (p.policy.uris.map tx)) (.list 2 (p.policy.rules.map l4)) (num p.now) (num p.next) (.list 3 (p.log.map J0)) (.list 7 (p.wires.map p8)) (fun w=>!W3 p.next p.now w) (by omega) (by kernel_rfl) (fun w hw=>c4c w p hn2 (hb.2.2.2.2 w hw))
 rw [hpk2]
 simp [num,hll',hwl']
 refine l3 (X:=Nat) (fun i=>⟨x5 [(1,.ptr 1 0),(43,.val (.list 6 (p.channels.map j5))),(44,.val (num p.channels.length)),(45,.val (num i))],x4 [(1,U9 p)]⟩) (fun i=>i≤p.channels.length∧Z9 i (a2u p)=true) (fun i=>p.channels.length - i) 0 (Le.mk _ _ ?_ ?_) ?_ ?_
 · simp [upd,num,PV.kill]
 · simp [U9,tx,num,MObj.kill,PV.kill]
 · simp [a0x]
 · rintro i ⟨hi,hall⟩
   simp [num,U9]
   refine j1 (fun hlt=>?_) (fun hlt=>?_)
   · have C2:a2u p i=false→(Z9 p.channels.length (a2u p) && Z9 p.log.length (a3m p.next p.now p.log) && !(p.wires.any fun w=>!W3 p.next p.now w))=false:=fun h=>by rw [a3o hlt h];rfl
     have hsu:=a0l (a2u p) i
     rw [hall,Bool.true_and] at hsu
     rw [b4q hlt] at C2 hsu
     have hnm:=b8w p i hlt
     obtain ⟨c,hc⟩:∃ c,p.channels[i]=c:=⟨_,rfl⟩
     have hbc:T8 1048576 c:=by rw [← hc];exact hb.1.2 _ (List.getElem_mem hlt)
     rw [hc] at C2 hsu hnm
     have hA:=c38 p c.group.name (by omega)
     have hCh:=b8a p c hbc
     have wi:IntKind.i64.wrap ((i:Int)+1)=((i+1:Nat):Int):=by rw [wrap_i64 (by omega) (by omega)];omega
     simp [num,hlt,hc,j5,tx,PV.kill,MObj.kill]
     refine b6 rfl rfl (.inl rfl) hCh ?_
     cases hk:S3 p.next p.now c with
     | false=>simp [C2 (by rw [hk,Bool.and_false])]
     | true=>
      rw [hk,Bool.and_true] at C2 hsu
      simp [num,tx,PV.kill,MObj.kill]
      refine b6 rfl rfl (.inl rfl) hA ?_
      by_cases hu:c.group.name∈(p.channels.map fun c=>c.group.name).take i
      · have hne:¬ (a0v p.channels fun x=>decide (x.group.name=c.group.name))=(i:Int):=fun h=>hnm.1 h hu
        simp [num,hne,C2 (decide_eq_false (fun h=>h hu))]
      · have heq:=hnm.2 hu
        simp [num,heq]
        refine LoopNext.mk (i+1) ⟨by omega,by rw [hsu,decide_eq_true hu]⟩ (by omega) (Le.mk _ _ ?_ ?_)
        · simp [num,wi,PV.kill]
        · simp [tx,U9,num,PV.kill,MObj.kill]
   · have e:i=p.channels.length:=by omega
     subst e
     rw [hall,Bool.true_and]
     simp [num]
     refine l3 (X:=Nat) (fun i=>⟨x5 [(1,.ptr 1 0),(5,.val (num (a7q p.log i))),(65,.val (.list 3 (p.log.map J0))),(66,.val (num p.log.length)),(67,.val (num i))],x4 [(1,U9 p)]⟩) (fun i=>i≤p.log.length∧Z9 i (a3m p.next p.now p.log)=true) (fun i=>p.log.length - i) 0 (Le.mk _ _ ?_ ?_) ?_ ?_
     · simp [upd,num,PV.kill,a7q]
     · simp [U9,tx,num,MObj.kill,PV.kill]
     · simp [a0x]
     · rintro i ⟨hi2,hall2⟩
       simp [num,U9]
       refine j1 (fun hlt=>?_) (fun hlt=>?_)
       · have C2:a3m p.next p.now p.log i=false→(Z9 p.log.length (a3m p.next p.now p.log) && !(p.wires.any fun w=>!W3 p.next p.now w))=false:=fun h=>by rw [a3o hlt h];rfl
         have hsu:=a0l (a3m p.next p.now p.log) i
         rw [hall2,Bool.true_and] at hsu
         rw [b24 hlt] at C2 hsu
         have hls:=a8b hlt
         obtain ⟨x,hx⟩:∃ x,p.log[i]=x:=⟨_,rfl⟩
         rw [hx] at C2 hsu hls
         have hK:=R4 x.kind 1 7
         have hI:=R4 x.id 1 (p.next - 1)
         have hT:=R4 x.at_ (a7q p.log i) p.now
         have wi:IntKind.i64.wrap ((i:Int)+1)=((i+1:Nat):Int):=by rw [wrap_i64 (by omega) (by omega)];omega
         simp [num,hlt,hx,J0,tx,PV.kill,MObj.kill]
         refine b6 rfl rfl (.inl rfl) hK ?_
         cases hk:decide (1≤x.kind∧x.kind≤7) with
         | false=>simp [C2 (by rw [hk];rfl)]
         | true=>
         rw [hk,Bool.true_and] at C2 hsu
         simp [num,wn,PV.kill]
         refine b6 rfl rfl (.inl rfl) hI ?_
         cases hid:decide (1≤x.id∧x.id≤p.next - 1) with
         | false=>simp [C2 (by rw [hid];rfl)]
         | true=>
         rw [hid,Bool.true_and] at C2 hsu
         simp [num,wn,PV.kill]
         refine b6 rfl rfl (.inl rfl) hT ?_
         cases hat:decide (a7q p.log i≤x.at_∧x.at_≤p.now) with
         | false=>simp [C2 hat]
         | true=>
          simp [num,PV.kill]
          refine LoopNext.mk (i+1) ⟨by omega,by rw [hsu,hat]⟩ (by omega) (Le.mk _ _ ?_ ?_)
          · simp [num,wi,PV.kill,hls]
          · simp [tx,U9,num,PV.kill,MObj.kill]
       · have e:i=p.log.length:=by omega
         subst e
         rw [hall2,Bool.true_and]
         simp [num]
         refine U0 (ids:=[1]) rfl rfl (by simp) (by decide) (by simp [a2g,B0,I1,B2,H9,B3,x1,B1,I0,p9,D1,J5,J6,l5,w5,w6,o0,B4,w9,p6,H8,A9,w8,w7,G0,G1,a1i,a1j,Option.getD_some,Option.getD_none,E7,x7,u7,F7,u6,u0,F9,u1,F8,F6,F5,K2,z8,u4,F3,z6,u3,F2,E5,F4,z7,F0,t8,z1,F1,K4,K3,E6,E8,u2,E9,A0,u5,D4,q8,E4,E3,E2,J7,y8,s8,D9,y6,q9,D8,D2,E1,y7,D6,q7,y5,D7,J9,J8,D3,y4,t7,D5,y9,t6,M3,M2,N4,M4,M8,M6,M5,N3,M7,M9,N0,N1,N2,B7,B6,B5,O5,O6,C7,I2,x8,G5,A2,N6,x2,T2,P0,N7,Q2,Q4,Q3,T3,T4,L5,L7,L6,L8,L9,P9,A4,P8,G6,G7,G8,A5,a1o,H5,A8,T0,T1,K5,O7,O8,Option.map_some,Option.map_none,G9,A6,A1,u9,G3,G4,K7,K6,Q9,Q8,M1,H6,H7,M0,Q5,Q6,K8,v7,K9,v6,P4,H4,H3,p5,Q1,Q7,L4,P5,P7,P6,A3,C8,D0,C9,l9,Q0,T7,T6,P1,L2,X5,P2,v8,H1,H2,A7,H0,n0,x9,m8,y0,m0,N5,R0,R1,B8,B9,I4,I3,G2,tx,num]) rfl hC ?_
         simp
end Go.Proofs
end
