/- Eg: merged out of KIu, KIv, KIx, KIy. -/
import Derived.Test.YtapjdgcfakhpaaaGreatDoorCa
import Derived.Test.YtapjdgcfakhpaaaGreatDoorAc
import Derived.Test.YtapjdgcfakhpaaaGreatDoorBa
import Derived.Test.YtapjdgcfakhpaaaGreatDoorEb
import Derived.Test.YtapjdgcfakhpaaaGreatDoorEc
import Derived.Test.YtapjdgcfakhpaaaGreatDoorCc
set_option linter.unusedSectionVars false
set_option linter.unusedSimpArgs false
set_option linter.unusedVariables false
set_option maxRecDepth 100000
section
namespace Go.Proofs
open Go.PW Go.KP
attribute [local simp] RV.cells RV.one PV.cells PV.solid PV.one G6 i7 M3 L4 RV.ofCells elems PV.killL
variable [GF]
theorem a8j (l:List LReport) (g:Nat) (c0_0 c0_1 c0_2 c0_3 c0_4 c0_5 c0_6 c0_7:RV) (p:LReport→Bool) (hl:l.length < 1099511627776) (hg:fnB Tryz.prog g=true)
 (hp:∀ x∈l,d8 Tryz.prog g [.val (i8 x),.box [c0_0,c0_1,c0_2,c0_3,c0_4,c0_5,c0_6,c0_7]] (.ret (.val (.bool (p x))) []) [[c0_0,c0_1,c0_2,c0_3,c0_4,c0_5,c0_6,c0_7]]) :
 d8 Tryz.prog 244 [.val (.list 4 (l.map i8)),.fn g [.box [c0_0,c0_1,c0_2,c0_3,c0_4,c0_5,c0_6,c0_7]]] (.ret (.val (num (a1i l p))) []) [[c0_0,c0_1,c0_2,c0_3,c0_4,c0_5,c0_6,c0_7]]:=by
 refine V4 mixed ok244 rfl (fun _=>rfl) ?_
 unfold ir244
 rw [b6]
 simp [d9,i6,j9,b9,d7,j9,i6]
 refine j8 (X:=Nat) (fun i=>⟨u0 [(0,.val (.list 4 (l.map i8))),(1,.fn g [.ptr 900 0]),(7,.val (num l.length)),(8,.val (num i))],u5 [(900,.box [.val c0_0,.val c0_1,.val c0_2,.val c0_3,.val c0_4,.val c0_5,.val c0_6,.val c0_7])]⟩) (fun i=>i≤l.length∧∀ k (hk:k < i) (hk':k < l.length),p l[k]=false) (fun i=>l.length - i) 0 (Le.mk _ _ ?_ ?_) ?_ ?_
 · simp [upd,num]
 · simp
 · simp
 · rintro i ⟨hi,hne⟩
   simp [num]
   refine f7 (fun h1=>?_) (fun h1=>?_)
   · have e1:(l.map i8)[i]?.getD .nilptr=i8 l[i]:=by simp [List.getElem?_eq_getElem h1]
     simp [num,h1,e1,i8,tx,num,hg]
     refine T6 (ids:=[900]) rfl rfl (by simp) (by decide) (by simp [a3e,y8,G1,z1,F9,z6,s8,y9,G0,l9,B1,H1,H2,j7,p8,p9,l1,z7,q9,l3,F8,y7,q8,q7,D9,E1,a05,a06,Option.getD_some,Option.getD_none,C6,u6,o8,D6,o7,o0,D8,o2,D7,D5,D4,H6,x3,o5,D2,x1,o4,D1,C4,D3,x2,C9,n9,w9,D0,H8,H7,C5,C7,o3,C8,x4,o6,B4,n0,C3,C2,C1,H3,w7,n6,B9,w5,n5,B8,B2,C0,w6,B6,m8,v8,B7,H5,H4,B3,v7,n8,B5,w8,n7,J6,J5,K9,J7,K3,J9,J8,K8,K2,K4,K5,K6,K7,A1,A0,z8,M5,M6,A4,G2,u7,E5,x7,L3,t6,Q6,M9,M0,O1,O3,O2,Q7,Q8,I8,J0,I9,J1,J2,N8,x9,N7,E6,E7,E8,y0,a09,F5,y6,Q4,Q5,H9,M7,M8,Option.map_some,Option.map_none,E9,y4,x6,o9,E3,E4,I2,I1,O8,O7,J4,F6,F7,J3,O4,O5,I4,p6,I5,p5,N2,F4,F3,l2,O0,O6,I7,N4,N6,N5,x8,A8,B0,A9,k7,N9,R0,Q9,N0,I6,U8,N1,p7,F1,F2,y5,F0,l0,u9,k9,v6,k8,L2,O9,P0,A2,A3,G4,G3,E2]) rfl (hp l[i] (List.getElem_mem h1)) ?_
     cases hpi:p l[i] with
     | true=>
      simp [S8,R7]
      rw [a0l h1 hpi (fun k hk=>hne k hk (by omega))];rfl
     | false=>
      simp
      refine LoopNext.mk (i+1) ⟨by omega,fun k hk hk'=>?_⟩ (by omega) (Le.mk _ _ ?_ ?_)
      · by_cases e:k=i
        · subst e;exact hpi
        · exact hne k (by omega) hk'
      · simp [num];exact wrap_i64 (by omega) (by omega)
      · simp
   · have e:i=l.length:=by omega
     subst e
     simp [num,S8,R7]
     rw [Y8 (fun k hk=>hne k hk hk)]
theorem a6r (l:List LReport) (g:Nat) (c0_0 c0_1 c0_2 c0_3 c0_4 c0_5 c0_6 c0_7:RV) (p:LReport→Bool) (hl:l.length < 1099511627776) (hg:fnB Tryz.prog g=true)
 (hp:∀ x∈l,d8 Tryz.prog g [.val (i8 x),.box [c0_0,c0_1,c0_2,c0_3,c0_4,c0_5,c0_6,c0_7]] (.ret (.val (.bool (p x))) []) [[c0_0,c0_1,c0_2,c0_3,c0_4,c0_5,c0_6,c0_7]]) :
 d8 Tryz.prog 179 [.val (.list 4 (l.map i8)),.fn g [.box [c0_0,c0_1,c0_2,c0_3,c0_4,c0_5,c0_6,c0_7]]] (.ret (.val (.bool (l.any p))) []) [[c0_0,c0_1,c0_2,c0_3,c0_4,c0_5,c0_6,c0_7]]:=by
 refine V4 mixed ok179 rfl (fun _=>rfl) ?_
 unfold ir179
 rw [b6]
 simp [d9,i6,j9,b9,d7,j9,i6]
 refine T6 (ids:=[900]) rfl rfl (by simp) (by decide) (by simp [a3e,y8,G1,z1,F9,z6,s8,y9,G0,l9,B1,H1,H2,j7,p8,p9,l1,z7,q9,l3,F8,y7,q8,q7,D9,E1,a05,a06,Option.getD_some,Option.getD_none,C6,u6,o8,D6,o7,o0,D8,o2,D7,D5,D4,H6,x3,o5,D2,x1,o4,D1,C4,D3,x2,C9,n9,w9,D0,H8,H7,C5,C7,o3,C8,x4,o6,B4,n0,C3,C2,C1,H3,w7,n6,B9,w5,n5,B8,B2,C0,w6,B6,m8,v8,B7,H5,H4,B3,v7,n8,B5,w8,n7,J6,J5,K9,J7,K3,J9,J8,K8,K2,K4,K5,K6,K7,A1,A0,z8,M5,M6,A4,G2,u7,E5,x7,L3,t6,Q6,M9,M0,O1,O3,O2,Q7,Q8,I8,J0,I9,J1,J2,N8,x9,N7,E6,E7,E8,y0,a09,F5,y6,Q4,Q5,H9,M7,M8,Option.map_some,Option.map_none,E9,y4,x6,o9,E3,E4,I2,I1,O8,O7,J4,F6,F7,J3,O4,O5,I4,p6,I5,p5,N2,F4,F3,l2,O0,O6,I7,N4,N6,N5,x8,A8,B0,A9,k7,N9,R0,Q9,N0,I6,U8,N1,p7,F1,F2,y5,F0,l0,u9,k9,v6,k8,L2,O9,P0,A2,A3,G4,G3,E2]) rfl (a8j l g c0_0 c0_1 c0_2 c0_3 c0_4 c0_5 c0_6 c0_7 p hl hg hp) ?_
 simp [num,S8,R7]
 exact a5y l p
theorem a7t (l:List LChannel) (g:Nat) (c0_0:RV) (p:LChannel→Bool) (hl:l.length < 1099511627776) (hg:fnB Tryz.prog g=true)
 (hp:∀ x∈l,d8 Tryz.prog g [.val (j6 x),.box [c0_0]] (.ret (.val (.bool (p x))) []) [[c0_0]]) :
 d8 Tryz.prog 181 [.val (.list 6 (l.map j6)),.fn g [.box [c0_0]]] (.ret (.val (num (a1i l p))) []) [[c0_0]]:=by
 refine V4 mixed ok181 rfl (fun _=>rfl) ?_
 unfold ir181
 rw [b6]
 simp [d9,i6,j9,b9,d7,j9,i6]
 refine j8 (X:=Nat) (fun i=>⟨u0 [(0,.val (.list 6 (l.map j6))),(1,.fn g [.ptr 900 0]),(7,.val (num l.length)),(8,.val (num i))],u5 [(900,.box [.val c0_0])]⟩) (fun i=>i≤l.length∧∀ k (hk:k < i) (hk':k < l.length),p l[k]=false) (fun i=>l.length - i) 0 (Le.mk _ _ ?_ ?_) ?_ ?_
 · simp [upd,num]
 · simp
 · simp
 · rintro i ⟨hi,hne⟩
   simp [num]
   refine f7 (fun h1=>?_) (fun h1=>?_)
   · have e1:(l.map j6)[i]?.getD .nilptr=j6 l[i]:=by simp [List.getElem?_eq_getElem h1]
     simp [num,h1,e1,M4,L5,j6,tx,num,hg]
     refine T6 (ids:=[900]) rfl rfl (by simp) (by decide) (by simp [a3e,y8,G1,z1,F9,z6,s8,y9,G0,l9,B1,H1,H2,j7,p8,p9,l1,z7,q9,l3,F8,y7,q8,q7,D9,E1,a05,a06,Option.getD_some,Option.getD_none,C6,u6,o8,D6,o7,o0,D8,o2,D7,D5,D4,H6,x3,o5,D2,x1,o4,D1,C4,D3,x2,C9,n9,w9,D0,H8,H7,C5,C7,o3,C8,x4,o6,B4,n0,C3,C2,C1,H3,w7,n6,B9,w5,n5,B8,B2,C0,w6,B6,m8,v8,B7,H5,H4,B3,v7,n8,B5,w8,n7,J6,J5,K9,J7,K3,J9,J8,K8,K2,K4,K5,K6,K7,A1,A0,z8,M5,M6,A4,G2,u7,E5,x7,L3,t6,Q6,M9,M0,O1,O3,O2,Q7,Q8,I8,J0,I9,J1,J2,N8,x9,N7,E6,E7,E8,y0,a09,F5,y6,Q4,Q5,H9,M7,M8,Option.map_some,Option.map_none,E9,y4,x6,o9,E3,E4,I2,I1,O8,O7,J4,F6,F7,J3,O4,O5,I4,p6,I5,p5,N2,F4,F3,l2,O0,O6,I7,N4,N6,N5,x8,A8,B0,A9,k7,N9,R0,Q9,N0,I6,U8,N1,p7,F1,F2,y5,F0,l0,u9,k9,v6,k8,L2,O9,P0,A2,A3,G4,G3,E2]) rfl (hp l[i] (List.getElem_mem h1)) ?_
     cases hpi:p l[i] with
     | true=>
      simp [S8,R7]
      rw [a0l h1 hpi (fun k hk=>hne k hk (by omega))];rfl
     | false=>
      simp
      refine LoopNext.mk (i+1) ⟨by omega,fun k hk hk'=>?_⟩ (by omega) (Le.mk _ _ ?_ ?_)
      · by_cases e:k=i
        · subst e;exact hpi
        · exact hne k (by omega) hk'
      · simp [num];exact wrap_i64 (by omega) (by omega)
      · simp
   · have e:i=l.length:=by omega
     subst e
     simp [num,S8,R7]
     rw [Y8 (fun k hk=>hne k hk hk)]
theorem b0i (l:List LWire) (g:Nat) (c0_0 c0_1 c0_2 c0_3 c0_4 c0_5 c0_6 c0_7:RV) (p:LWire→Bool) (hl:l.length < 1099511627776) (hg:fnB Tryz.prog g=true)
 (hp:∀ x∈l,d8 Tryz.prog g [.val (I0 x),.box [c0_0,c0_1,c0_2,c0_3,c0_4,c0_5,c0_6,c0_7]] (.ret (.val (.bool (p x))) []) [[c0_0,c0_1,c0_2,c0_3,c0_4,c0_5,c0_6,c0_7]]) :
 d8 Tryz.prog 183 [.val (.list 7 (l.map I0)),.fn g [.box [c0_0,c0_1,c0_2,c0_3,c0_4,c0_5,c0_6,c0_7]]] (.ret (.val (num (a1i l p))) []) [[c0_0,c0_1,c0_2,c0_3,c0_4,c0_5,c0_6,c0_7]]:=by
 refine V4 mixed ok183 rfl (fun _=>rfl) ?_
 unfold ir183
 rw [b6]
 simp [d9,i6,j9,b9,d7,j9,i6]
 refine j8 (X:=Nat) (fun i=>⟨u0 [(0,.val (.list 7 (l.map I0))),(1,.fn g [.ptr 900 0]),(7,.val (num l.length)),(8,.val (num i))],u5 [(900,.box [.val c0_0,.val c0_1,.val c0_2,.val c0_3,.val c0_4,.val c0_5,.val c0_6,.val c0_7])]⟩) (fun i=>i≤l.length∧∀ k (hk:k < i) (hk':k < l.length),p l[k]=false) (fun i=>l.length - i) 0 (Le.mk _ _ ?_ ?_) ?_ ?_
 · simp [upd,num]
 · simp
 · simp
 · rintro i ⟨hi,hne⟩
   simp [num]
   refine f7 (fun h1=>?_) (fun h1=>?_)
   · have e1:(l.map I0)[i]?.getD .nilptr=I0 l[i]:=by simp [List.getElem?_eq_getElem h1]
     simp [num,h1,e1,I0,tx,num,hg]
     refine T6 (ids:=[900]) rfl rfl (by simp) (by decide) (by simp [a3e,y8,G1,z1,F9,z6,s8,y9,G0,l9,B1,H1,H2,j7,p8,p9,l1,z7,q9,l3,F8,y7,q8,q7,D9,E1,a05,a06,Option.getD_some,Option.getD_none,C6,u6,o8,D6,o7,o0,D8,o2,D7,D5,D4,H6,x3,o5,D2,x1,o4,D1,C4,D3,x2,C9,n9,w9,D0,H8,H7,C5,C7,o3,C8,x4,o6,B4,n0,C3,C2,C1,H3,w7,n6,B9,w5,n5,B8,B2,C0,w6,B6,m8,v8,B7,H5,H4,B3,v7,n8,B5,w8,n7,J6,J5,K9,J7,K3,J9,J8,K8,K2,K4,K5,K6,K7,A1,A0,z8,M5,M6,A4,G2,u7,E5,x7,L3,t6,Q6,M9,M0,O1,O3,O2,Q7,Q8,I8,J0,I9,J1,J2,N8,x9,N7,E6,E7,E8,y0,a09,F5,y6,Q4,Q5,H9,M7,M8,Option.map_some,Option.map_none,E9,y4,x6,o9,E3,E4,I2,I1,O8,O7,J4,F6,F7,J3,O4,O5,I4,p6,I5,p5,N2,F4,F3,l2,O0,O6,I7,N4,N6,N5,x8,A8,B0,A9,k7,N9,R0,Q9,N0,I6,U8,N1,p7,F1,F2,y5,F0,l0,u9,k9,v6,k8,L2,O9,P0,A2,A3,G4,G3,E2]) rfl (hp l[i] (List.getElem_mem h1)) ?_
     cases hpi:p l[i] with
     | true=>
      simp [S8,R7]
      rw [a0l h1 hpi (fun k hk=>hne k hk (by omega))];rfl
     | false=>
      simp
      refine LoopNext.mk (i+1) ⟨by omega,fun k hk hk'=>?_⟩ (by omega) (Le.mk _ _ ?_ ?_)
      · by_cases e:k=i
        · subst e;exact hpi
        · exact hne k (by omega) hk'
      · simp [num];exact wrap_i64 (by omega) (by omega)
      · simp
   · have e:i=l.length:=by omega
     subst e
     simp [num,S8,R7]
     rw [Y8 (fun k hk=>hne k hk hk)]
theorem a7u (l:List LWire) (g:Nat) (c0_0 c0_1 c0_2 c0_3 c0_4 c0_5 c0_6 c0_7:RV) (p:LWire→Bool) (hl:l.length < 1099511627776) (hg:fnB Tryz.prog g=true)
 (hp:∀ x∈l,d8 Tryz.prog g [.val (I0 x),.box [c0_0,c0_1,c0_2,c0_3,c0_4,c0_5,c0_6,c0_7]] (.ret (.val (.bool (p x))) []) [[c0_0,c0_1,c0_2,c0_3,c0_4,c0_5,c0_6,c0_7]]) :
 d8 Tryz.prog 117 [.val (.list 7 (l.map I0)),.fn g [.box [c0_0,c0_1,c0_2,c0_3,c0_4,c0_5,c0_6,c0_7]]] (.ret (.val (.bool (l.any p))) []) [[c0_0,c0_1,c0_2,c0_3,c0_4,c0_5,c0_6,c0_7]]:=by
 refine V4 mixed ok117 rfl (fun _=>rfl) ?_
 unfold ir117
 rw [b6]
 simp [d9,i6,j9,b9,d7,j9,i6]
 refine T6 (ids:=[900]) rfl rfl (by simp) (by decide) (by simp [a3e,y8,G1,z1,F9,z6,s8,y9,G0,l9,B1,H1,H2,j7,p8,p9,l1,z7,q9,l3,F8,y7,q8,q7,D9,E1,a05,a06,Option.getD_some,Option.getD_none,C6,u6,o8,D6,o7,o0,D8,o2,D7,D5,D4,H6,x3,o5,D2,x1,o4,D1,C4,D3,x2,C9,n9,w9,D0,H8,H7,C5,C7,o3,C8,x4,o6,B4,n0,C3,C2,C1,H3,w7,n6,B9,w5,n5,B8,B2,C0,w6,B6,m8,v8,B7,H5,H4,B3,v7,n8,B5,w8,n7,J6,J5,K9,J7,K3,J9,J8,K8,K2,K4,K5,K6,K7,A1,A0,z8,M5,M6,A4,G2,u7,E5,x7,L3,t6,Q6,M9,M0,O1,O3,O2,Q7,Q8,I8,J0,I9,J1,J2,N8,x9,N7,E6,E7,E8,y0,a09,F5,y6,Q4,Q5,H9,M7,M8,Option.map_some,Option.map_none,E9,y4,x6,o9,E3,E4,I2,I1,O8,O7,J4,F6,F7,J3,O4,O5,I4,p6,I5,p5,N2,F4,F3,l2,O0,O6,I7,N4,N6,N5,x8,A8,B0,A9,k7,N9,R0,Q9,N0,I6,U8,N1,p7,F1,F2,y5,F0,l0,u9,k9,v6,k8,L2,O9,P0,A2,A3,G4,G3,E2]) rfl (b0i l g c0_0 c0_1 c0_2 c0_3 c0_4 c0_5 c0_6 c0_7 p hl hg hp) ?_
 simp [num,S8,R7]
 exact a5y l p
end Go.Proofs
end
section
namespace Go.Proofs
open Go.PW Go.KP
attribute [local simp] RV.cells RV.one PV.cells PV.solid PV.one G6 i7 M3 L4 RV.ofCells elems PV.killL
variable [GH]
theorem c1x (t:Tx):d8 Tryz.prog 243 [.val (tx t)] (.ret (.val (.bool (decide (1≤t.length∧t.length≤8000)))) []) []:=by
 have q:(1≤t.length∧t.length≤8000)↔((1:Int)≤t.length∧(t.length:Int)≤8000):=by omega
 have e:decide (1≤t.length∧t.length≤8000)=decide ((1:Int)≤t.length∧(t.length:Int)≤8000):=decide_eq_decide.2 q
 rw [e]
 have h:=R9 t.length 1 8000
 refine f8 mixed ok243 rfl (fun _=>rfl) ?_
 unfold ir243
 rw [b6]
 simp [d9,i6,j9,b9,d7,tx,b8,num]
 refine b7 rfl rfl (.inl rfl) h ?_
 simp
theorem b7a (r:LReport) (b1 b2 b3 b4:Bool) (h1:d8 Tryz.prog 114 [.val (num r.id),.val (num 1),.val (num 1000000)] (.ret (.val (.bool b1)) []) []) (h2:d8 Tryz.prog 114 [.val (num r.born),.val (num 0),.val (num 1000000)] (.ret (.val (.bool b2)) []) [])
 (h3:d8 Tryz.prog 114 [.val (num r.tries),.val (num 0),.val (num 3)] (.ret (.val (.bool b3)) []) []) (h4:d8 Tryz.prog 243 [.val (tx r.body)] (.ret (.val (.bool b4)) []) []) :
 d8 Tryz.prog 242 [.val (i8 r)] (.ret (.val (.bool (b1 && b2 && b3 && b4))) []) []:=by
 refine f8 mixed ok242 rfl (fun _=>rfl) ?_
 unfold ir242
 rw [b6]
 simp [d9,i6,j9,b9,d7,i8,tx,num]
 refine b7 rfl rfl (.inl rfl) h1 ?_
 cases b1 with
 | false=>simp
 | true=>
  simp [num]
  refine b7 rfl rfl (.inl rfl) h2 ?_
  cases b2 with
  | false=>simp
  | true=>
   simp [num]
   refine b7 rfl rfl (.inl rfl) h3 ?_
   cases b3 with
   | false=>simp
   | true=>
    simp [num]
    refine b7 rfl rfl (.inl rfl) h4 ?_
    cases b4<;>simp
theorem c4q (r:LReport):d8 Tryz.prog 242 [.val (i8 r)] (.ret (.val (.bool (Y6 r))) []) []:=
 b7a r _ _ _ _ (R9 r.id 1 1000000) (R9 r.born 0 1000000) (R9 r.tries 0 3) (c1x r.body)
theorem c4m (n:Int):d8 Tryz.prog 184 [.val (num n)] (.ret (.val (.bool (decide (100≤n∧n≤599)))) []) []:=by
 refine f8 mixed ok184 rfl (fun _=>rfl) ?_
 unfold ir184
 rw [b6]
 have h:=R9 n 100 599
 simp [d9,i6,j9,b9,d7,num]
 refine b7 rfl rfl (.inl rfl) h ?_
 simp
theorem c77 (q:LQueue) (hb:a2y 1048576 q):d8 Tryz.prog 178 [.val (L5 q)] (.ret (.val (.bool (S7 q))) []) []:=by
 refine f8 mixed ok178 rfl (fun _=>rfl) ?_
 unfold ir178
 rw [b6]
 by_cases h5:q.items.length≤5
 rotate_left
 · have h5':(5:Int) < q.items.length:=by omega
   have:S7 q=false:=by unfold S7;rw [decide_eq_false h5];rfl
   simp [d9,i6,j9,b9,d7,L5,h5',this]
 have h5':¬ (5:Int) < q.items.length:=by omega
 by_cases h6:q.recent.length≤6
 rotate_left
 · have h6':(6:Int) < q.recent.length:=by omega
   have:S7 q=false:=by unfold S7;rw [decide_eq_false h6];simp
   simp [d9,i6,j9,b9,d7,L5,h5',h6',this]
 have h6':¬ (6:Int) < q.recent.length:=by omega
 have hfin:a0q q.items.length (a5b q.items)=true→a0q q.recent.length (a9u q.recent)=true→S7 q=true:=fun a b=>by
  unfold S7;rw [decide_eq_true h5,decide_eq_true h6,a,b];rfl
 simp [d9,i6,j9,b9,d7,L5,h5',h6']
 refine j8 (X:=Nat) (fun i=>⟨u0 [(1,.ptr 1 0),(18,.val (.list 4 (q.items.map i8))),(19,.val (num q.items.length)),(20,.val (num i))],u5 [(1,.box [.val (.list 4 (q.items.map i8)),.val (.list 1 (q.recent.map tx))])]⟩) (fun i=>i≤q.items.length∧a0q i (a5b q.items)=true) (fun i=>q.items.length - i) 0 (Le.mk _ _ ?_ ?_) ?_ ?_
 · simp [upd,num]
 · simp
 · simp [a1l]
 · rintro i ⟨hi,hall⟩
   simp [num]
   refine f7 (fun h1=>?_) (fun h1=>?_)
   · have H0:=b1i (q:=q) h1
     have hsu:=a08 (a5b q.items) i
     rw [hall,Bool.true_and] at hsu
     obtain ⟨r,hr⟩:∃ r,q.items[i]=r:=⟨_,rfl⟩
     have hR:=c4q r
     have wi:IntKind.i64.wrap ((i:Int)+1)=((i+1:Nat):Int):=by rw [wrap_i64 (by omega) (by omega)];omega
     by_cases h0:i=0
     · subst h0
       rw [b48 h1,hr] at H0 hsu
       simp [num,h1,hr,i8,tx,PV.kill,MObj.kill]
       refine l6 rfl rfl (.inl rfl) hR ?_
       cases hk:Y6 r with
       | false=>simp [H0 hk]
       | true=>
        simp [num]
        refine LoopNext.mk 1 ⟨by omega,by rw [hsu,hk]⟩ (by omega) (Le.mk _ _ ?_ ?_)
        · simp [num,upd,PV.kill];decide
        · simp [tx,PV.kill,MObj.kill]
     · obtain ⟨j,hij⟩:∃ j,i=j+1:=⟨i - 1,by omega⟩
       have hj:j < q.items.length:=by omega
       obtain ⟨s,hs⟩:∃ s,q.items[j]=s:=⟨_,rfl⟩
       have hra:a5b q.items i=(Y6 r && (decide (s.id < r.id) && decide (s.born≤r.born))):=by
        subst hij;rw [b49 h1,hr,hs]
       rw [hra] at H0 hsu
       have wj:IntKind.i64.wrap ((i:Int) - 1)=(j:Int):=by rw [wrap_i64 (by omega) (by omega)];omega
       have hp:0 < i:=by omega
       simp [num,h1,hr,i8,tx,PV.kill,MObj.kill]
       refine l6 rfl rfl (.inl rfl) hR ?_
       cases hk:Y6 r with
       | false=>simp [H0 (by rw [hk];rfl)]
       | true=>
        rw [hk,Bool.true_and] at H0 hsu
        by_cases hA:s.id < r.id
        · have hA':¬ r.id≤s.id:=by omega
          by_cases hB:s.born≤r.born
          · have hB':¬ r.born < s.born:=by omega
            simp [num,h1,hr,hs,hj,hp,wj,i8,tx,PV.kill,MObj.kill,hA',hB']
            refine LoopNext.mk (i+1) ⟨by omega,by rw [hsu,decide_eq_true hA,decide_eq_true hB];rfl⟩ (by omega) (Le.mk _ _ ?_ ?_)
            · simp [num,wi,PV.kill]
            · simp [tx,PV.kill,MObj.kill]
          · have hB':r.born < s.born:=by omega
            simp [num,h1,hr,hs,hj,hp,wj,i8,tx,PV.kill,MObj.kill,hA',hB',H0 (by rw [decide_eq_false hB,Bool.and_false])]
        · have hA':r.id≤s.id:=by omega
          simp [num,h1,hr,hs,hj,hp,wj,i8,tx,PV.kill,MObj.kill,hA',H0 (by rw [decide_eq_false hA,Bool.false_and])]
   · have e:i=q.items.length:=by omega
     subst e
     simp [num]
     refine j8 (X:=Nat) (fun i=>⟨u0 [(1,.ptr 1 0),(58,.val (.list 1 (q.recent.map tx))),(59,.val (num q.recent.length)),(60,.val (num i))],u5 [(1,.box [.val (.list 4 (q.items.map i8)),.val (.list 1 (q.recent.map tx))])]⟩) (fun i=>i≤q.recent.length∧a0q i (a9u q.recent)=true) (fun i=>q.recent.length - i) 0 (Le.mk _ _ ?_ ?_) ?_ ?_
     · simp [upd,num]
     · simp
     · simp [a1l]
     · rintro i ⟨hi2,hall2⟩
       simp [num]
       refine f7 (fun h1=>?_) (fun h1=>?_)
       · have H0:=b1j (q:=q) h1
         have hsu:=a08 (a9u q.recent) i
         rw [hall2,Bool.true_and] at hsu
         rw [c0y h1] at H0 hsu
         obtain ⟨r,hr⟩:∃ r,q.recent[i]=r:=⟨_,rfl⟩
         rw [hr] at H0 hsu
         have hR:=c1x r
         have hH:=a5j (q.recent.take i) r (by simp;omega)
         have wi:IntKind.i64.wrap ((i:Int)+1)=((i+1:Nat):Int):=by rw [wrap_i64 (by omega) (by omega)];omega
         have hile:i≤q.recent.length:=by omega
         simp [num,h1,hr,tx,b8]
         refine b7 rfl rfl (.inl rfl) hR ?_
         cases hk:decide (1≤r.length∧r.length≤8000) with
         | false=>simp [H0 (by rw [hk];rfl)]
         | true=>
          rw [hk,Bool.true_and] at H0 hsu
          simp [num,h1,hr,tx,hile,← List.map_take]
          refine b7 rfl rfl (.inl rfl) hH ?_
          by_cases hm:r∈q.recent.take i
          · simp [hm,H0 (by rw [decide_eq_false (fun h=>h hm)])]
          · simp [hm]
            refine LoopNext.mk (i+1) ⟨by omega,by rw [hsu,decide_eq_true hm]⟩ (by omega) (Le.mk _ _ ?_ ?_)
            · simp [num,wi]
            · simp [tx]
       · have e:i=q.recent.length:=by omega
         subst e
         simp [hfin hall hall2]
def b15 (p:LPipe):List RV:=[.list 6 (p.channels.map j6),tx p.policy.reportTo,.list 1 (p.policy.uris.map tx),.list 2 (p.policy.rules.map l7),num p.now,num p.next,.list 3 (p.log.map G5),.list 7 (p.wires.map I0)]
theorem c74 (r:LReport) (p:LPipe):d8 Tryz.prog 180 [.val (i8 r),.box (b15 p)] (.ret (.val (.bool (!(decide (r.id < p.next) && decide (r.born≤p.now))))) []) [b15 p]:=by
 unfold b15
 refine V4 mixed ok180 rfl (fun _=>rfl) ?_
 unfold ir180
 rw [b6]
 by_cases hA:r.id < p.next
 · have hA':¬ p.next≤r.id:=by omega
   by_cases hB:r.born≤p.now
   · have hB':¬ p.now < r.born:=by omega
     simp [d9,i6,j9,b9,d7,i8,tx,num,hA,hA',hB,hB',S8,R7]
   · have hB':p.now < r.born:=by omega
     simp [d9,i6,j9,b9,d7,i8,tx,num,hA,hA',hB,hB',S8,R7]
 · have hA':p.next≤r.id:=by omega
   simp [d9,i6,j9,b9,d7,i8,tx,num,hA,hA',S8,R7]
end Go.Proofs
end
section
namespace Go.Proofs
open Go.PW Go.KP
attribute [local simp] RV.cells RV.one PV.cells PV.solid PV.one G6 i7 M3 L4 RV.ofCells elems PV.killL
variable [GH]
theorem b50 (a b:List LTarget) (ha:a.length < 1099511627776) (hb:b.length < 1099511627776):d8 Tryz.prog 176 [.val (.list 3 (a.map f9)),.val (.list 3 (b.map f9))] (.ret (.val (.bool (decide (a=b)))) []) []:=by
 refine f8 mixed ok176 rfl (fun _=>rfl) ?_
 unfold ir176
 rw [b6]
 by_cases hlen:a.length=b.length
 rotate_left
 · have h1:¬ (a.length:Int)=b.length:=by omega
   have h2:a≠b:=fun e=>hlen (by rw [e])
   simp [d9,i6,j9,b9,d7,h1,h2]
 simp [d9,i6,j9,b9,d7,num,hlen]
 refine j8 (X:=Nat) (fun i=>⟨u0 [(0,.val (.list 3 (a.map f9))),(1,.val (.list 3 (b.map f9))),(12,.val (num b.length)),(13,.val (num i))],u5 []⟩) (fun i=>i≤b.length∧a.take i=b.take i) (fun i=>b.length - i) 0 (Le.mk _ _ ?_ ?_) ?_ ?_
 · simp [upd,num]
 · simp
 · simp
 · rintro i ⟨hi,heq⟩
   simp [num]
   refine f7 (fun h1b=>?_) (fun h1=>?_)
   · have h1:i < a.length:=by omega
     obtain ⟨x,hx⟩:∃ x,a[i]=x:=⟨_,rfl⟩
     obtain ⟨y,hy⟩:∃ y,b[i]=y:=⟨_,rfl⟩
     have hne:x≠y→a≠b:=fun h e=>h (by subst e;rw [← hx,← hy])
     have wi:IntKind.i64.wrap ((i:Int)+1)=((i+1:Nat):Int):=by rw [wrap_i64 (by omega) (by omega)];omega
     by_cases hu:x.url=y.url
     · by_cases hp:x.prio=y.prio
       · by_cases hw:x.weight=y.weight
         · have hxy:x=y:=by
            cases x;cases y
            simp only at hu hp hw
            subst hu;subst hp;subst hw;rfl
           simp [num,h1,h1b,hx,hy,f9,tx,P4,a4y,a31,L7,hu,hp,hw]
           refine LoopNext.mk (i+1) ⟨by omega,?_⟩ (by omega) (Le.mk _ _ ?_ ?_)
           · rw [List.take_add_one,List.take_add_one,List.getElem?_eq_getElem h1,List.getElem?_eq_getElem h1b,heq,hx,hy,hxy]
           · simp [num,wi]
           · simp
         · simp [num,h1,h1b,hx,hy,f9,tx,P4,a4y,a31,L7,hu,hp,hw,hne (fun e=>hw (by rw [e]))]
       · simp [num,h1,h1b,hx,hy,f9,tx,P4,a4y,a31,L7,hu,hp,hne (fun e=>hp (by rw [e]))]
     · simp [num,h1,h1b,hx,hy,f9,tx,P4,a4y,a31,L7,hu,hne (fun e=>hu (by rw [e]))]
   · have e:i=b.length:=by omega
     subst e
     rw [← hlen,List.take_length,hlen,List.take_length] at heq
     simp [heq]
theorem c4o (c:LChannel) (name:Tx):d8 Tryz.prog 182 [.val (j6 c),.box [tx name]] (.ret (.val (.bool (decide (c.group.name=name)))) []) [[tx name]]:=by
 refine V4 mixed ok182 rfl (fun _=>rfl) ?_
 unfold ir182
 rw [b6]
 simp [d9,i6,j9,b9,d7,j6,tx,num,L7,S8,R7]
theorem c73 (p:LPipe) (name:Tx) (hl:p.channels.length < 1099511627776):d8 Tryz.prog 116 [.val (L8 p),.val (tx name)] (.ret (.val (num (a1i p.channels fun c=>decide (c.group.name=name)))) []) []:=by
 have h:=a7t p.channels 182 (tx name) (fun c=>decide (c.group.name=name)) hl (by kernel_rfl) (fun c _=>c4o c name)
 refine f8 mixed ok116 rfl (fun _=>rfl) ?_
 unfold ir116
 rw [b6]
 simp [d9,i6,j9,b9,d7,L8,tx,num]
 refine T6 (ids:=[3]) rfl rfl (by simp) (by decide) (by simp [a3e,y8,G1,z1,F9,z6,s8,y9,G0,l9,B1,H1,H2,j7,p8,p9,l1,z7,q9,l3,F8,y7,q8,q7,D9,E1,a05,a06,Option.getD_some,Option.getD_none,C6,u6,o8,D6,o7,o0,D8,o2,D7,D5,D4,H6,x3,o5,D2,x1,o4,D1,C4,D3,x2,C9,n9,w9,D0,H8,H7,C5,C7,o3,C8,x4,o6,B4,n0,C3,C2,C1,H3,w7,n6,B9,w5,n5,B8,B2,C0,w6,B6,m8,v8,B7,H5,H4,B3,v7,n8,B5,w8,n7,J6,J5,K9,J7,K3,J9,J8,K8,K2,K4,K5,K6,K7,A1,A0,z8,M5,M6,A4,G2,u7,E5,x7,L3,t6,Q6,M9,M0,O1,O3,O2,Q7,Q8,I8,J0,I9,J1,J2,N8,x9,N7,E6,E7,E8,y0,a09,F5,y6,Q4,Q5,H9,M7,M8,Option.map_some,Option.map_none,E9,y4,x6,o9,E3,E4,I2,I1,O8,O7,J4,F6,F7,J3,O4,O5,I4,p6,I5,p5,N2,F4,F3,l2,O0,O6,I7,N4,N6,N5,x8,A8,B0,A9,k7,N9,R0,Q9,N0,I6,U8,N1,p7,F1,F2,y5,F0,l0,u9,k9,v6,k8,L2,O9,P0,A2,A3,G4,G3,E2,tx]) rfl h ?_
 simp
theorem c1y (p:LPipe) (c:LChannel) (hb:R4 1048576 c):d8 Tryz.prog 115 [.val (L8 p),.val (j6 c)] (.ret (.val (.bool (Q1 p.next p.now c))) []) []:=by
 have hG:=c8a c.group hb.1
 have hpl:c.peers.length≤1048576:=hb.2.1.1
 have htl:c.group.targets.length≤1048576:=hb.1.2.1
 have hql:c.queue.items.length≤1048576:=hb.2.2.1.1
 have hP:=c79 c.peers (by omega) (fun x hx=>by have:=hb.2.1.2 x hx;unfold a1n U9 at this;omega)
 have hT:=b3m c.peers (by omega)
 have hE:=b50 (tgs c.peers) c.group.targets (by simp [tgs];omega) (by omega)
 have hQ:=c77 c.queue hb.2.2
 have hC:=a6r c.queue.items 180 (.list 6 (p.channels.map j6)) (tx p.policy.reportTo) (.list 1 (p.policy.uris.map tx)) (.list 2 (p.policy.rules.map l7)) (num p.now) (num p.next) (.list 3 (p.log.map G5)) (.list 7 (p.wires.map I0)) (fun r=>!(decide (r.id < p.next) && decide (r.born≤p.now))) (by omega) (by kernel_rfl) (fun r _=>c74 r p)
 have hch:Q1 p.next p.now c=(a2r c.group && X7 c.peers && decide (tgs c.peers=c.group.targets) && S7 c.queue && !(c.queue.items.any fun r=>!(decide (r.id < p.next) && decide (r.born≤p.now)))):=by
  unfold Q1 tgs
  rw [List.not_any_eq_all_not]
  simp only [Bool.not_not]
 rw [hch]
 refine f8 mixed ok115 rfl (fun _=>rfl) ?_
 unfold ir115
 rw [b6]
 simp [d9,i6,j9,b9,d7,L8,j6,tx,num]
 refine l6 rfl rfl (.inl rfl) hG ?_
 cases a2r c.group with
 | false=>simp
 | true=>
 simp [num]
 refine l6 rfl rfl (.inl rfl) hP ?_
 cases X7 c.peers with
 | false=>simp
 | true=>
 simp [num]
 refine l6 rfl rfl (.inl rfl) hT ?_
 simp [num]
 refine l6 rfl rfl (.inl rfl) hE ?_
 cases decide (tgs c.peers=c.group.targets) with
 | false=>simp
 | true=>
 simp [num]
 refine l6 rfl rfl (.inl rfl) hQ ?_
 cases S7 c.queue with
 | false=>simp
 | true=>
 simp [num]
 refine T6 (ids:=[2]) rfl rfl (by simp) (by decide) (by simp [a3e,y8,G1,z1,F9,z6,s8,y9,G0,l9,B1,H1,H2,j7,p8,p9,l1,z7,q9,l3,F8,y7,q8,q7,D9,E1,a05,a06,Option.getD_some,Option.getD_none,C6,u6,o8,D6,o7,o0,D8,o2,D7,D5,D4,H6,x3,o5,D2,x1,o4,D1,C4,D3,x2,C9,n9,w9,D0,H8,H7,C5,C7,o3,C8,x4,o6,B4,n0,C3,C2,C1,H3,w7,n6,B9,w5,n5,B8,B2,C0,w6,B6,m8,v8,B7,H5,H4,B3,v7,n8,B5,w8,n7,J6,J5,K9,J7,K3,J9,J8,K8,K2,K4,K5,K6,K7,A1,A0,z8,M5,M6,A4,G2,u7,E5,x7,L3,t6,Q6,M9,M0,O1,O3,O2,Q7,Q8,I8,J0,I9,J1,J2,N8,x9,N7,E6,E7,E8,y0,a09,F5,y6,Q4,Q5,H9,M7,M8,Option.map_some,Option.map_none,E9,y4,x6,o9,E3,E4,I2,I1,O8,O7,J4,F6,F7,J3,O4,O5,I4,p6,I5,p5,N2,F4,F3,l2,O0,O6,I7,N4,N6,N5,x8,A8,B0,A9,k7,N9,R0,Q9,N0,I6,U8,N1,p7,F1,F2,y5,F0,l0,u9,k9,v6,k8,L2,O9,P0,A2,A3,G4,G3,E2,tx,num]) rfl hC ?_
 simp
theorem c0g (p:LPipe) (w:LWire) (b1 b2 b3 b5:Bool) (hn:1≤p.next∧p.next≤1000000) (hil:w.ids.length≤1048576) (h1:d8 Tryz.prog 114 [.val (num w.at_),.val (num 0),.val (num p.now)] (.ret (.val (.bool b1)) []) [])
 (h2:d8 Tryz.prog 184 [.val (num w.status)] (.ret (.val (.bool b2)) []) []) (h3:d8 Tryz.prog 185 [.val (tx w.group)] (.ret (.val (.bool b3)) []) [])
 (h5:d8 Tryz.prog 114 [.val (num w.ids.length),.val (num 1),.val (num 3)] (.ret (.val (.bool b5)) []) []) :
 d8 Tryz.prog 119 [.val (L8 p),.val (I0 w)] (.ret (.val (.bool (b1 && b2 && b3 && decide (w.url.length≤100) && b5 && decide (w.body.length≤65536) && a0q w.ids.length (a8i p.next w.ids)))) []) []:=by
 refine f8 mixed ok119 rfl (fun _=>rfl) ?_
 unfold ir119
 rw [b6]
 simp [d9,i6,j9,b9,d7,L8,I0,tx,num]
 refine b7 rfl rfl (.inl rfl) h1 ?_
 cases b1 with
 | false=>simp
 | true=>
 simp [num]
 refine b7 rfl rfl (.inl rfl) h2 ?_
 cases b2 with
 | false=>simp
 | true=>
 simp [num]
 refine b7 rfl rfl (.inl rfl) h3 ?_
 cases b3 with
 | false=>simp
 | true=>
 by_cases hu:w.url.length≤100
 rotate_left
 · have hu':(100:Int) < w.url.length:=by omega
   simp [num,b8,hu',hu]
 have hu':¬ (100:Int) < w.url.length:=by omega
 simp [num,b8,hu',hu]
 refine b7 rfl rfl (.inl rfl) h5 ?_
 cases b5 with
 | false=>simp
 | true=>
 by_cases hy:w.body.length≤65536
 rotate_left
 · have hy':(65536:Int) < w.body.length:=by omega
   simp [num,b8,hy',hy]
 have hy':¬ (65536:Int) < w.body.length:=by omega
 simp [num,b8,hy',hy]
 have wn:IntKind.i64.wrap (p.next - 1)=p.next - 1:=wrap_i64 (by omega) (by omega)
 refine j8 (X:=Nat) (fun i=>⟨u0 [(2,.ptr 2 0),(3,.ptr 3 0),(45,.val (.list 1 (w.ids.map num))),(46,.val (num w.ids.length)),(47,.val (num i))],u5 [(2,U6 p),(3,b65 w)]⟩) (fun i=>i≤w.ids.length∧a0q i (a8i p.next w.ids)=true) (fun i=>w.ids.length - i) 0 (Le.mk _ _ ?_ ?_) ?_ ?_
 · simp [upd,num,PV.kill]
 · simp [U6,b65,tx,num,MObj.kill,PV.kill]
 · simp [a1l]
 · rintro i ⟨hi,hall⟩
   simp [num,b65]
   refine f7 (fun hlt=>?_) (fun hlt=>?_)
   · have H0:a8i p.next w.ids i=false→a0q w.ids.length (a8i p.next w.ids)=false:=a4u hlt
     have hsu:=a08 (a8i p.next w.ids) i
     rw [hall,Bool.true_and] at hsu
     obtain ⟨r,hr⟩:∃ r,w.ids[i]=r:=⟨_,rfl⟩
     have hR:=R9 r 1 (p.next - 1)
     have wi:IntKind.i64.wrap ((i:Int)+1)=((i+1:Nat):Int):=by rw [wrap_i64 (by omega) (by omega)];omega
     by_cases h0:i=0
     · subst h0
       rw [b8d hlt,hr] at H0 hsu
       simp [num,hlt,hr,tx,U6,wn]
       refine b7 rfl rfl (.inl rfl) hR ?_
       cases hk:decide (1≤r∧r≤p.next - 1) with
       | false=>simp [H0 hk]
       | true=>
        simp [num]
        refine LoopNext.mk 1 ⟨by omega,by rw [hsu,hk]⟩ (by omega) (Le.mk _ _ ?_ ?_)
        · simp [num,upd];decide
        · simp [tx,U6,b65,num]
     · obtain ⟨j,hij⟩:∃ j,i=j+1:=⟨i - 1,by omega⟩
       have hj:j < w.ids.length:=by omega
       obtain ⟨s,hs⟩:∃ s,w.ids[j]=s:=⟨_,rfl⟩
       have hra:a8i p.next w.ids i=(decide (1≤r∧r≤p.next - 1) && decide (s < r)):=by
        subst hij;rw [b8e hlt,hr,hs]
       rw [hra] at H0 hsu
       have wj:IntKind.i64.wrap ((i:Int) - 1)=(j:Int):=by rw [wrap_i64 (by omega) (by omega)];omega
       have hp:0 < i:=by omega
       simp [num,hlt,hr,tx,U6,wn]
       refine b7 rfl rfl (.inl rfl) hR ?_
       cases hk:decide (1≤r∧r≤p.next - 1) with
       | false=>simp [H0 (by rw [hk];rfl)]
       | true=>
        rw [hk,Bool.true_and] at H0 hsu
        by_cases hA:s < r
        · have hA':¬ r≤s:=by omega
          simp [num,hlt,hr,hs,hj,hp,wj,tx,hA']
          refine LoopNext.mk (i+1) ⟨by omega,by rw [hsu,decide_eq_true hA]⟩ (by omega) (Le.mk _ _ ?_ ?_)
          · simp [num,wi]
          · simp [tx,U6,b65,num]
        · have hA':r≤s:=by omega
          simp [num,hlt,hr,hs,hj,hp,wj,tx,hA',H0 (decide_eq_false hA)]
   · have e:i=w.ids.length:=by omega
     subst e
     simp [hall,hu,hy]
theorem d0v (p:LPipe) (w:LWire) (hn:1≤p.next∧p.next≤1000000) (hb:a0c 1048576 w):d8 Tryz.prog 119 [.val (L8 p),.val (I0 w)] (.ret (.val (.bool (Y0 p.next p.now w))) []) []:=by
 have hgl:w.group.length≤1048576:=hb.1
 have hil:w.ids.length≤1048576:=hb.2.2.1
 have q:(1≤w.ids.length∧w.ids.length≤3)↔((1:Int)≤w.ids.length∧(w.ids.length:Int)≤3):=by omega
 unfold Y0
 rw [decide_eq_decide.2 q]
 exact c0g p w _ _ _ _ hn hil (R9 w.at_ 0 p.now) (c4m w.status) (b5z w.group (by omega)) (R9 w.ids.length 1 3)
end Go.Proofs
end
section
namespace Go.Proofs
open Go.PW Go.KP
attribute [local simp] RV.cells RV.one PV.cells PV.solid PV.one G6 i7 M3 L4 RV.ofCells elems PV.killL
variable [GH]
theorem c78 (w:LWire) (p:LPipe) (hn:1≤p.next∧p.next≤1000000) (hb:a0c 1048576 w):d8 Tryz.prog 118 [.val (I0 w),.box (b15 p)] (.ret (.val (.bool (!Y0 p.next p.now w))) []) [b15 p]:=by
 have hW:=d0v p w hn hb
 unfold b15
 refine V4 mixed ok118 rfl (fun _=>rfl) ?_
 unfold ir118
 rw [b6]
 simp [d9,i6,j9,b9,d7,I0,tx,num]
 refine b7 rfl rfl (.inl rfl) hW ?_
 simp [num,tx,S8,R7]
theorem d04 (p:LPipe) (hb:a07 1048576 p):d8 Tryz.prog 61 [.val (L8 p)] (.ret (.val (.bool (M1 p))) []) []:=by
 have hcl:p.channels.length≤1048576:=hb.1.1
 have hP:=c4r p.policy hb.2.1
 have hN:=i_isNow p.now
 have hX:=R9 p.next 1 1000000
 refine f8 mixed ok61 rfl (fun _=>rfl) ?_
 unfold ir61
 rw [b6]
 by_cases h5:p.channels.length≤5
 rotate_left
 · have h5':(5:Int) < p.channels.length:=by omega
   have hf:M1 p=false:=by unfold M1;rw [decide_eq_false h5];rfl
   simp [d9,i6,j9,b9,d7,L8,tx,num,h5',hf]
 have h5':¬ (5:Int) < p.channels.length:=by omega
 simp [d9,i6,j9,b9,d7,L8,tx,num,h5']
 refine b7 rfl rfl (.inl rfl) hP ?_
 cases hpol:Y7 p.policy with
 | false=>
  have hf:M1 p=false:=by unfold M1;rw [hpol];simp
  simp [hf]
 | true=>
 simp [num]
 refine b7 rfl rfl (.inl rfl) hN ?_
 cases hnow:decide (0≤p.now∧p.now≤1000000) with
 | false=>
  have hf:M1 p=false:=by unfold M1;rw [hnow];simp
  simp [hf]
 | true=>
 simp [num]
 refine b7 rfl rfl (.inl rfl) hX ?_
 cases hnext:decide (1≤p.next∧p.next≤1000000) with
 | false=>
  have hf:M1 p=false:=by unfold M1;rw [hnext];simp
  simp [hf]
 | true=>
 by_cases hll:p.log.length≤4096
 rotate_left
 · have hll':(4096:Int) < p.log.length:=by omega
   have hf:M1 p=false:=by unfold M1;rw [decide_eq_false hll];simp
   simp [num,hll',hf]
 have hll':¬ (4096:Int) < p.log.length:=by omega
 by_cases hwl:p.wires.length≤4096
 rotate_left
 · have hwl':(4096:Int) < p.wires.length:=by omega
   have hf:M1 p=false:=by unfold M1;rw [decide_eq_false hwl];simp
   simp [num,hll',hwl',hf]
 have hwl':¬ (4096:Int) < p.wires.length:=by omega
 have hpk:M1 p=(a0q p.channels.length (a3r p) && a0q p.log.length (a4r p.next p.now p.log) && p.wires.all (Y0 p.next p.now)):=by
  unfold M1;rw [decide_eq_true h5,hpol,hnow,hnext,decide_eq_true hll,decide_eq_true hwl];simp
 have hn2:1≤p.next∧p.next≤1000000:=of_decide_eq_true hnext
 have wn:IntKind.i64.wrap (p.next - 1)=p.next - 1:=wrap_i64 (by omega) (by omega)
 have hpk2:M1 p=(a0q p.channels.length (a3r p) && a0q p.log.length (a4r p.next p.now p.log) && !(p.wires.any fun w=>!Y0 p.next p.now w)):=by
  rw [hpk,List.not_any_eq_all_not]
  simp only [Bool.not_not]
 have hC:=a7u p.wires 118 (.list 6 (p.channels.map j6)) (tx p.policy.reportTo) (.list 1 (p.policy.uris.map tx)) (.list 2 (p.policy.rules.map l7)) (num p.now) (num p.next) (.list 3 (p.log.map G5)) (.list 7 (p.wires.map I0)) (fun w=>!Y0 p.next p.now w) (by omega) (by kernel_rfl) (fun w hw=>c78 w p hn2 (hb.2.2.2.2 w hw))
 rw [hpk2]
 simp [num,hll',hwl']
 refine j8 (X:=Nat) (fun i=>⟨u0 [(1,.ptr 1 0),(43,.val (.list 6 (p.channels.map j6))),(44,.val (num p.channels.length)),(45,.val (num i))],u5 [(1,U6 p)]⟩) (fun i=>i≤p.channels.length∧a0q i (a3r p)=true) (fun i=>p.channels.length - i) 0 (Le.mk _ _ ?_ ?_) ?_ ?_
 · simp [upd,num,PV.kill]
 · simp [U6,tx,num,MObj.kill,PV.kill]
 · simp [a1l]
 · rintro i ⟨hi,hall⟩
   simp [num,U6]
   refine f7 (fun hlt=>?_) (fun hlt=>?_)
   · have H0:a3r p i=false→(a0q p.channels.length (a3r p) && a0q p.log.length (a4r p.next p.now p.log) && !(p.wires.any fun w=>!Y0 p.next p.now w))=false:=fun h=>by rw [a4u hlt h];rfl
     have hsu:=a08 (a3r p) i
     rw [hall,Bool.true_and] at hsu
     rw [a6u hlt] at H0 hsu
     have hnm:=c2p p i hlt
     obtain ⟨c,hc⟩:∃ c,p.channels[i]=c:=⟨_,rfl⟩
     have hbc:R4 1048576 c:=by rw [← hc];exact hb.1.2 _ (List.getElem_mem hlt)
     rw [hc] at H0 hsu hnm
     have hA:=c73 p c.group.name (by omega)
     have hCh:=c1y p c hbc
     have wi:IntKind.i64.wrap ((i:Int)+1)=((i+1:Nat):Int):=by rw [wrap_i64 (by omega) (by omega)];omega
     simp [num,hlt,hc,j6,tx,PV.kill,MObj.kill]
     refine b7 rfl rfl (.inl rfl) hCh ?_
     cases hk:Q1 p.next p.now c with
     | false=>simp [H0 (by rw [hk,Bool.and_false])]
     | true=>
      rw [hk,Bool.and_true] at H0 hsu
      simp [num,tx,PV.kill,MObj.kill]
      refine b7 rfl rfl (.inl rfl) hA ?_
      by_cases hu:c.group.name∈(p.channels.map fun c=>c.group.name).take i
      · have hne:¬ (a1i p.channels fun x=>decide (x.group.name=c.group.name))=(i:Int):=fun h=>hnm.1 h hu
        simp [num,hne,H0 (decide_eq_false (fun h=>h hu))]
      · have heq:=hnm.2 hu
        simp [num,heq]
        refine LoopNext.mk (i+1) ⟨by omega,by rw [hsu,decide_eq_true hu]⟩ (by omega) (Le.mk _ _ ?_ ?_)
        · simp [num,wi,PV.kill]
        · simp [tx,U6,num,PV.kill,MObj.kill]
   · have e:i=p.channels.length:=by omega
     subst e
     rw [hall,Bool.true_and]
     simp [num]
     refine j8 (X:=Nat) (fun i=>⟨u0 [(1,.ptr 1 0),(5,.val (num (a93 p.log i))),(65,.val (.list 3 (p.log.map G5))),(66,.val (num p.log.length)),(67,.val (num i))],u5 [(1,U6 p)]⟩) (fun i=>i≤p.log.length∧a0q i (a4r p.next p.now p.log)=true) (fun i=>p.log.length - i) 0 (Le.mk _ _ ?_ ?_) ?_ ?_
     · simp [upd,num,PV.kill,a93]
     · simp [U6,tx,num,MObj.kill,PV.kill]
     · simp [a1l]
     · rintro i ⟨hi2,hall2⟩
       simp [num,U6]
       refine f7 (fun hlt=>?_) (fun hlt=>?_)
       · have H0:a4r p.next p.now p.log i=false→(a0q p.log.length (a4r p.next p.now p.log) && !(p.wires.any fun w=>!Y0 p.next p.now w))=false:=fun h=>by rw [a4u hlt h];rfl
         have hsu:=a08 (a4r p.next p.now p.log) i
         rw [hall2,Bool.true_and] at hsu
         rw [b6f hlt] at H0 hsu
         have hls:=b0p hlt
         obtain ⟨x,hx⟩:∃ x,p.log[i]=x:=⟨_,rfl⟩
         rw [hx] at H0 hsu hls
         have hK:=R9 x.kind 1 7
         have hI:=R9 x.id 1 (p.next - 1)
         have hT:=R9 x.at_ (a93 p.log i) p.now
         have wi:IntKind.i64.wrap ((i:Int)+1)=((i+1:Nat):Int):=by rw [wrap_i64 (by omega) (by omega)];omega
         simp [num,hlt,hx,G5,tx,PV.kill,MObj.kill]
         refine b7 rfl rfl (.inl rfl) hK ?_
         cases hk:decide (1≤x.kind∧x.kind≤7) with
         | false=>simp [H0 (by rw [hk];rfl)]
         | true=>
         rw [hk,Bool.true_and] at H0 hsu
         simp [num,wn,PV.kill]
         refine b7 rfl rfl (.inl rfl) hI ?_
         cases hid:decide (1≤x.id∧x.id≤p.next - 1) with
         | false=>simp [H0 (by rw [hid];rfl)]
         | true=>
         rw [hid,Bool.true_and] at H0 hsu
         simp [num,wn,PV.kill]
         refine b7 rfl rfl (.inl rfl) hT ?_
         cases hat:decide (a93 p.log i≤x.at_∧x.at_≤p.now) with
         | false=>simp [H0 hat]
         | true=>
          simp [num,PV.kill]
          refine LoopNext.mk (i+1) ⟨by omega,by rw [hsu,hat]⟩ (by omega) (Le.mk _ _ ?_ ?_)
          · simp [num,wi,PV.kill,hls]
          · simp [tx,U6,num,PV.kill,MObj.kill]
       · have e:i=p.log.length:=by omega
         subst e
         rw [hall2,Bool.true_and]
         simp [num]
         refine T6 (ids:=[1]) rfl rfl (by simp) (by decide) (by simp [a3e,y8,G1,z1,F9,z6,s8,y9,G0,l9,B1,H1,H2,j7,p8,p9,l1,z7,q9,l3,F8,y7,q8,q7,D9,E1,a05,a06,Option.getD_some,Option.getD_none,C6,u6,o8,D6,o7,o0,D8,o2,D7,D5,D4,H6,x3,o5,D2,x1,o4,D1,C4,D3,x2,C9,n9,w9,D0,H8,H7,C5,C7,o3,C8,x4,o6,B4,n0,C3,C2,C1,H3,w7,n6,B9,w5,n5,B8,B2,C0,w6,B6,m8,v8,B7,H5,H4,B3,v7,n8,B5,w8,n7,J6,J5,K9,J7,K3,J9,J8,K8,K2,K4,K5,K6,K7,A1,A0,z8,M5,M6,A4,G2,u7,E5,x7,L3,t6,Q6,M9,M0,O1,O3,O2,Q7,Q8,I8,J0,I9,J1,J2,N8,x9,N7,E6,E7,E8,y0,a09,F5,y6,Q4,Q5,H9,M7,M8,Option.map_some,Option.map_none,E9,y4,x6,o9,E3,E4,I2,I1,O8,O7,J4,F6,F7,J3,O4,O5,I4,p6,I5,p5,N2,F4,F3,l2,O0,O6,I7,N4,N6,N5,x8,A8,B0,A9,k7,N9,R0,Q9,N0,I6,U8,N1,p7,F1,F2,y5,F0,l0,u9,k9,v6,k8,L2,O9,P0,A2,A3,G4,G3,E2,tx,num]) rfl hC ?_
         simp
end Go.Proofs
end
