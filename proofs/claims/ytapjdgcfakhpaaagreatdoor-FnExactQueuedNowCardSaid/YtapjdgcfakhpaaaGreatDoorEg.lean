/- Eg: merged out of KIu, KIv, KIx, KIy. -/
import Derived.Test.YtapjdgcfakhpaaaGreatDoorCa
import Derived.Test.YtapjdgcfakhpaaaGreatDoorAc
import Derived.Test.YtapjdgcfakhpaaaGreatDoorBa
import Derived.Test.YtapjdgcfakhpaaaGreatDoorEb
import Derived.Test.YtapjdgcfakhpaaaGreatDoorEc
import Derived.Test.YtapjdgcfakhpaaaGreatDoorCc
set_option linter.unusedSectionVars false
set_option linter.unusedSimpArgs false
set_option linter.unusedVariables false
set_option maxRecDepth 100000
section
namespace Go.Proofs
open Go.PW Go.KP
attribute [local simp] RV.cells RV.one PV.cells PV.solid PV.one G1 i6 L8 K7 RV.ofCells elems PV.killL
variable [GF]
theorem a79 (l:List LReport) (g:Nat) (c0_0 c0_1 c0_2 c0_3 c0_4 c0_5 c0_6 c0_7:RV) (p:LReport→Bool) (hl:l.length < 1099511627776) (hg:fnB Tryz.prog g=true)
 (hp:∀ x∈l,d8 Tryz.prog g [.val (i7 x),.box [c0_0,c0_1,c0_2,c0_3,c0_4,c0_5,c0_6,c0_7]] (.ret (.val (.bool (p x))) []) [[c0_0,c0_1,c0_2,c0_3,c0_4,c0_5,c0_6,c0_7]]) :
 d8 Tryz.prog 244 [.val (.list 4 (l.map i7)),.fn g [.box [c0_0,c0_1,c0_2,c0_3,c0_4,c0_5,c0_6,c0_7]]] (.ret (.val (num (a07 l p))) []) [[c0_0,c0_1,c0_2,c0_3,c0_4,c0_5,c0_6,c0_7]]:=by
 refine U9 mixed ok244 rfl (fun _=>rfl) ?_
 unfold ir244
 rw [b6]
 simp [d9,f9,j8,b8,d7,j8,f9]
 refine j7 (X:=Nat) (fun i=>⟨t6 [(0,.val (.list 4 (l.map i7))),(1,.fn g [.ptr 900 0]),(7,.val (num l.length)),(8,.val (num i))],u1 [(900,.box [.val c0_0,.val c0_1,.val c0_2,.val c0_3,.val c0_4,.val c0_5,.val c0_6,.val c0_7])]⟩) (fun i=>i≤l.length∧∀ k (hk:k < i) (hk':k < l.length),p l[k]=false) (fun i=>l.length - i) 0 (Le.mk _ _ ?_ ?_) ?_ ?_
 · simp [upd,num]
 · simp
 · simp
 · rintro i ⟨hi,hne⟩
   simp [num]
   refine f7 (fun h1=>?_) (fun h1=>?_)
   · have e1:(l.map i7)[i]?.getD .nilptr=i7 l[i]:=by simp [List.getElem?_eq_getElem h1]
     simp [num,h1,e1,i7,tx,num,hg]
     refine T2 (ids:=[900]) rfl rfl (by simp) (by decide) (by simp [a2z,x9,F5,y4,F3,y5,q7,y0,F4,l6,A5,G6,G7,j6,p5,p6,l0,y6,p9,l2,F2,x8,p8,p7,D3,D4,a0u,a0v,Option.getD_some,Option.getD_none,C0,t8,o5,D0,o4,n7,D2,n8,D1,C9,C8,H1,w6,o2,C6,v8,o1,C5,B8,C7,w5,C3,n6,v7,C4,H3,H2,B9,C1,n9,C2,w7,o3,A8,l8,B7,B6,B5,G8,u9,m8,B3,u6,l9,B2,A6,B4,u7,B0,l7,u5,B1,H0,G9,A7,u4,n5,A9,v6,n0,J1,J0,K4,J2,J6,J4,J3,K3,J5,J7,J8,J9,K2,y9,y8,y7,M0,M1,z7,F6,u0,D8,x1,K6,q8,Q1,M4,L6,N6,N8,N7,Q2,Q3,I3,I5,I4,I6,I7,N3,x3,N2,D9,E1,E2,x4,a0x,E9,x7,P9,Q0,H4,M2,M3,Option.map_some,Option.map_none,E3,x5,w9,o6,D6,D7,H7,H6,O3,O2,I9,F0,F1,I8,N9,O0,H9,o8,I0,o7,M7,E8,E7,l1,N5,O1,I2,M9,N1,N0,x2,A2,A4,A3,k6,N4,Q5,Q4,M5,I1,U3,M6,o9,E5,E6,x6,E4,k9,u2,k8,u3,k7,K5,O4,O5,z1,z6,F8,F7,D5]) rfl (hp l[i] (List.getElem_mem h1)) ?_
     cases hpi:p l[i] with
     | true=>
      simp [S3,R3]
      rw [a0e h1 hpi (fun k hk=>hne k hk (by omega))];rfl
     | false=>
      simp
      refine LoopNext.mk (i+1) ⟨by omega,fun k hk hk'=>?_⟩ (by omega) (Le.mk _ _ ?_ ?_)
      · by_cases e:k=i
        · subst e;exact hpi
        · exact hne k (by omega) hk'
      · simp [num];exact wrap_i64 (by omega) (by omega)
      · simp
   · have e:i=l.length:=by omega
     subst e
     simp [num,S3,R3]
     rw [Y1 (fun k hk=>hne k hk hk)]
theorem a6g (l:List LReport) (g:Nat) (c0_0 c0_1 c0_2 c0_3 c0_4 c0_5 c0_6 c0_7:RV) (p:LReport→Bool) (hl:l.length < 1099511627776) (hg:fnB Tryz.prog g=true)
 (hp:∀ x∈l,d8 Tryz.prog g [.val (i7 x),.box [c0_0,c0_1,c0_2,c0_3,c0_4,c0_5,c0_6,c0_7]] (.ret (.val (.bool (p x))) []) [[c0_0,c0_1,c0_2,c0_3,c0_4,c0_5,c0_6,c0_7]]) :
 d8 Tryz.prog 179 [.val (.list 4 (l.map i7)),.fn g [.box [c0_0,c0_1,c0_2,c0_3,c0_4,c0_5,c0_6,c0_7]]] (.ret (.val (.bool (l.any p))) []) [[c0_0,c0_1,c0_2,c0_3,c0_4,c0_5,c0_6,c0_7]]:=by
 refine U9 mixed ok179 rfl (fun _=>rfl) ?_
 unfold ir179
 rw [b6]
 simp [d9,f9,j8,b8,d7,j8,f9]
 refine T2 (ids:=[900]) rfl rfl (by simp) (by decide) (by simp [a2z,x9,F5,y4,F3,y5,q7,y0,F4,l6,A5,G6,G7,j6,p5,p6,l0,y6,p9,l2,F2,x8,p8,p7,D3,D4,a0u,a0v,Option.getD_some,Option.getD_none,C0,t8,o5,D0,o4,n7,D2,n8,D1,C9,C8,H1,w6,o2,C6,v8,o1,C5,B8,C7,w5,C3,n6,v7,C4,H3,H2,B9,C1,n9,C2,w7,o3,A8,l8,B7,B6,B5,G8,u9,m8,B3,u6,l9,B2,A6,B4,u7,B0,l7,u5,B1,H0,G9,A7,u4,n5,A9,v6,n0,J1,J0,K4,J2,J6,J4,J3,K3,J5,J7,J8,J9,K2,y9,y8,y7,M0,M1,z7,F6,u0,D8,x1,K6,q8,Q1,M4,L6,N6,N8,N7,Q2,Q3,I3,I5,I4,I6,I7,N3,x3,N2,D9,E1,E2,x4,a0x,E9,x7,P9,Q0,H4,M2,M3,Option.map_some,Option.map_none,E3,x5,w9,o6,D6,D7,H7,H6,O3,O2,I9,F0,F1,I8,N9,O0,H9,o8,I0,o7,M7,E8,E7,l1,N5,O1,I2,M9,N1,N0,x2,A2,A4,A3,k6,N4,Q5,Q4,M5,I1,U3,M6,o9,E5,E6,x6,E4,k9,u2,k8,u3,k7,K5,O4,O5,z1,z6,F8,F7,D5]) rfl (a79 l g c0_0 c0_1 c0_2 c0_3 c0_4 c0_5 c0_6 c0_7 p hl hg hp) ?_
 simp [num,S3,R3]
 exact a5n l p
theorem a7j (l:List LChannel) (g:Nat) (c0_0:RV) (p:LChannel→Bool) (hl:l.length < 1099511627776) (hg:fnB Tryz.prog g=true)
 (hp:∀ x∈l,d8 Tryz.prog g [.val (j5 x),.box [c0_0]] (.ret (.val (.bool (p x))) []) [[c0_0]]) :
 d8 Tryz.prog 181 [.val (.list 6 (l.map j5)),.fn g [.box [c0_0]]] (.ret (.val (num (a07 l p))) []) [[c0_0]]:=by
 refine U9 mixed ok181 rfl (fun _=>rfl) ?_
 unfold ir181
 rw [b6]
 simp [d9,f9,j8,b8,d7,j8,f9]
 refine j7 (X:=Nat) (fun i=>⟨t6 [(0,.val (.list 6 (l.map j5))),(1,.fn g [.ptr 900 0]),(7,.val (num l.length)),(8,.val (num i))],u1 [(900,.box [.val c0_0])]⟩) (fun i=>i≤l.length∧∀ k (hk:k < i) (hk':k < l.length),p l[k]=false) (fun i=>l.length - i) 0 (Le.mk _ _ ?_ ?_) ?_ ?_
 · simp [upd,num]
 · simp
 · simp
 · rintro i ⟨hi,hne⟩
   simp [num]
   refine f7 (fun h1=>?_) (fun h1=>?_)
   · have e1:(l.map j5)[i]?.getD .nilptr=j5 l[i]:=by simp [List.getElem?_eq_getElem h1]
     simp [num,h1,e1,L9,K8,j5,tx,num,hg]
     refine T2 (ids:=[900]) rfl rfl (by simp) (by decide) (by simp [a2z,x9,F5,y4,F3,y5,q7,y0,F4,l6,A5,G6,G7,j6,p5,p6,l0,y6,p9,l2,F2,x8,p8,p7,D3,D4,a0u,a0v,Option.getD_some,Option.getD_none,C0,t8,o5,D0,o4,n7,D2,n8,D1,C9,C8,H1,w6,o2,C6,v8,o1,C5,B8,C7,w5,C3,n6,v7,C4,H3,H2,B9,C1,n9,C2,w7,o3,A8,l8,B7,B6,B5,G8,u9,m8,B3,u6,l9,B2,A6,B4,u7,B0,l7,u5,B1,H0,G9,A7,u4,n5,A9,v6,n0,J1,J0,K4,J2,J6,J4,J3,K3,J5,J7,J8,J9,K2,y9,y8,y7,M0,M1,z7,F6,u0,D8,x1,K6,q8,Q1,M4,L6,N6,N8,N7,Q2,Q3,I3,I5,I4,I6,I7,N3,x3,N2,D9,E1,E2,x4,a0x,E9,x7,P9,Q0,H4,M2,M3,Option.map_some,Option.map_none,E3,x5,w9,o6,D6,D7,H7,H6,O3,O2,I9,F0,F1,I8,N9,O0,H9,o8,I0,o7,M7,E8,E7,l1,N5,O1,I2,M9,N1,N0,x2,A2,A4,A3,k6,N4,Q5,Q4,M5,I1,U3,M6,o9,E5,E6,x6,E4,k9,u2,k8,u3,k7,K5,O4,O5,z1,z6,F8,F7,D5]) rfl (hp l[i] (List.getElem_mem h1)) ?_
     cases hpi:p l[i] with
     | true=>
      simp [S3,R3]
      rw [a0e h1 hpi (fun k hk=>hne k hk (by omega))];rfl
     | false=>
      simp
      refine LoopNext.mk (i+1) ⟨by omega,fun k hk hk'=>?_⟩ (by omega) (Le.mk _ _ ?_ ?_)
      · by_cases e:k=i
        · subst e;exact hpi
        · exact hne k (by omega) hk'
      · simp [num];exact wrap_i64 (by omega) (by omega)
      · simp
   · have e:i=l.length:=by omega
     subst e
     simp [num,S3,R3]
     rw [Y1 (fun k hk=>hne k hk hk)]
theorem b0a (l:List LWire) (g:Nat) (c0_0 c0_1 c0_2 c0_3 c0_4 c0_5 c0_6 c0_7:RV) (p:LWire→Bool) (hl:l.length < 1099511627776) (hg:fnB Tryz.prog g=true)
 (hp:∀ x∈l,d8 Tryz.prog g [.val (H5 x),.box [c0_0,c0_1,c0_2,c0_3,c0_4,c0_5,c0_6,c0_7]] (.ret (.val (.bool (p x))) []) [[c0_0,c0_1,c0_2,c0_3,c0_4,c0_5,c0_6,c0_7]]) :
 d8 Tryz.prog 183 [.val (.list 7 (l.map H5)),.fn g [.box [c0_0,c0_1,c0_2,c0_3,c0_4,c0_5,c0_6,c0_7]]] (.ret (.val (num (a07 l p))) []) [[c0_0,c0_1,c0_2,c0_3,c0_4,c0_5,c0_6,c0_7]]:=by
 refine U9 mixed ok183 rfl (fun _=>rfl) ?_
 unfold ir183
 rw [b6]
 simp [d9,f9,j8,b8,d7,j8,f9]
 refine j7 (X:=Nat) (fun i=>⟨t6 [(0,.val (.list 7 (l.map H5))),(1,.fn g [.ptr 900 0]),(7,.val (num l.length)),(8,.val (num i))],u1 [(900,.box [.val c0_0,.val c0_1,.val c0_2,.val c0_3,.val c0_4,.val c0_5,.val c0_6,.val c0_7])]⟩) (fun i=>i≤l.length∧∀ k (hk:k < i) (hk':k < l.length),p l[k]=false) (fun i=>l.length - i) 0 (Le.mk _ _ ?_ ?_) ?_ ?_
 · simp [upd,num]
 · simp
 · simp
 · rintro i ⟨hi,hne⟩
   simp [num]
   refine f7 (fun h1=>?_) (fun h1=>?_)
   · have e1:(l.map H5)[i]?.getD .nilptr=H5 l[i]:=by simp [List.getElem?_eq_getElem h1]
     simp [num,h1,e1,H5,tx,num,hg]
     refine T2 (ids:=[900]) rfl rfl (by simp) (by decide) (by simp [a2z,x9,F5,y4,F3,y5,q7,y0,F4,l6,A5,G6,G7,j6,p5,p6,l0,y6,p9,l2,F2,x8,p8,p7,D3,D4,a0u,a0v,Option.getD_some,Option.getD_none,C0,t8,o5,D0,o4,n7,D2,n8,D1,C9,C8,H1,w6,o2,C6,v8,o1,C5,B8,C7,w5,C3,n6,v7,C4,H3,H2,B9,C1,n9,C2,w7,o3,A8,l8,B7,B6,B5,G8,u9,m8,B3,u6,l9,B2,A6,B4,u7,B0,l7,u5,B1,H0,G9,A7,u4,n5,A9,v6,n0,J1,J0,K4,J2,J6,J4,J3,K3,J5,J7,J8,J9,K2,y9,y8,y7,M0,M1,z7,F6,u0,D8,x1,K6,q8,Q1,M4,L6,N6,N8,N7,Q2,Q3,I3,I5,I4,I6,I7,N3,x3,N2,D9,E1,E2,x4,a0x,E9,x7,P9,Q0,H4,M2,M3,Option.map_some,Option.map_none,E3,x5,w9,o6,D6,D7,H7,H6,O3,O2,I9,F0,F1,I8,N9,O0,H9,o8,I0,o7,M7,E8,E7,l1,N5,O1,I2,M9,N1,N0,x2,A2,A4,A3,k6,N4,Q5,Q4,M5,I1,U3,M6,o9,E5,E6,x6,E4,k9,u2,k8,u3,k7,K5,O4,O5,z1,z6,F8,F7,D5]) rfl (hp l[i] (List.getElem_mem h1)) ?_
     cases hpi:p l[i] with
     | true=>
      simp [S3,R3]
      rw [a0e h1 hpi (fun k hk=>hne k hk (by omega))];rfl
     | false=>
      simp
      refine LoopNext.mk (i+1) ⟨by omega,fun k hk hk'=>?_⟩ (by omega) (Le.mk _ _ ?_ ?_)
      · by_cases e:k=i
        · subst e;exact hpi
        · exact hne k (by omega) hk'
      · simp [num];exact wrap_i64 (by omega) (by omega)
      · simp
   · have e:i=l.length:=by omega
     subst e
     simp [num,S3,R3]
     rw [Y1 (fun k hk=>hne k hk hk)]
theorem a7k (l:List LWire) (g:Nat) (c0_0 c0_1 c0_2 c0_3 c0_4 c0_5 c0_6 c0_7:RV) (p:LWire→Bool) (hl:l.length < 1099511627776) (hg:fnB Tryz.prog g=true)
 (hp:∀ x∈l,d8 Tryz.prog g [.val (H5 x),.box [c0_0,c0_1,c0_2,c0_3,c0_4,c0_5,c0_6,c0_7]] (.ret (.val (.bool (p x))) []) [[c0_0,c0_1,c0_2,c0_3,c0_4,c0_5,c0_6,c0_7]]) :
 d8 Tryz.prog 117 [.val (.list 7 (l.map H5)),.fn g [.box [c0_0,c0_1,c0_2,c0_3,c0_4,c0_5,c0_6,c0_7]]] (.ret (.val (.bool (l.any p))) []) [[c0_0,c0_1,c0_2,c0_3,c0_4,c0_5,c0_6,c0_7]]:=by
 refine U9 mixed ok117 rfl (fun _=>rfl) ?_
 unfold ir117
 rw [b6]
 simp [d9,f9,j8,b8,d7,j8,f9]
 refine T2 (ids:=[900]) rfl rfl (by simp) (by decide) (by simp [a2z,x9,F5,y4,F3,y5,q7,y0,F4,l6,A5,G6,G7,j6,p5,p6,l0,y6,p9,l2,F2,x8,p8,p7,D3,D4,a0u,a0v,Option.getD_some,Option.getD_none,C0,t8,o5,D0,o4,n7,D2,n8,D1,C9,C8,H1,w6,o2,C6,v8,o1,C5,B8,C7,w5,C3,n6,v7,C4,H3,H2,B9,C1,n9,C2,w7,o3,A8,l8,B7,B6,B5,G8,u9,m8,B3,u6,l9,B2,A6,B4,u7,B0,l7,u5,B1,H0,G9,A7,u4,n5,A9,v6,n0,J1,J0,K4,J2,J6,J4,J3,K3,J5,J7,J8,J9,K2,y9,y8,y7,M0,M1,z7,F6,u0,D8,x1,K6,q8,Q1,M4,L6,N6,N8,N7,Q2,Q3,I3,I5,I4,I6,I7,N3,x3,N2,D9,E1,E2,x4,a0x,E9,x7,P9,Q0,H4,M2,M3,Option.map_some,Option.map_none,E3,x5,w9,o6,D6,D7,H7,H6,O3,O2,I9,F0,F1,I8,N9,O0,H9,o8,I0,o7,M7,E8,E7,l1,N5,O1,I2,M9,N1,N0,x2,A2,A4,A3,k6,N4,Q5,Q4,M5,I1,U3,M6,o9,E5,E6,x6,E4,k9,u2,k8,u3,k7,K5,O4,O5,z1,z6,F8,F7,D5]) rfl (b0a l g c0_0 c0_1 c0_2 c0_3 c0_4 c0_5 c0_6 c0_7 p hl hg hp) ?_
 simp [num,S3,R3]
 exact a5n l p
end Go.Proofs
end
section
namespace Go.Proofs
open Go.PW Go.KP
attribute [local simp] RV.cells RV.one PV.cells PV.solid PV.one G1 i6 L8 K7 RV.ofCells elems PV.killL
variable [GH]
theorem c1q (t:Tx):d8 Tryz.prog 243 [.val (tx t)] (.ret (.val (.bool (decide (1≤t.length∧t.length≤8000)))) []) []:=by
 have q:(1≤t.length∧t.length≤8000)↔((1:Int)≤t.length∧(t.length:Int)≤8000):=by omega
 have e:decide (1≤t.length∧t.length≤8000)=decide ((1:Int)≤t.length∧(t.length:Int)≤8000):=decide_eq_decide.2 q
 rw [e]
 have h:=R5 t.length 1 8000
 refine f6 mixed ok243 rfl (fun _=>rfl) ?_
 unfold ir243
 rw [b6]
 simp [d9,f9,j8,b8,d7,tx,b9,num]
 refine b7 rfl rfl (.inl rfl) h ?_
 simp
theorem b6t (r:LReport) (b1 b2 b3 b4:Bool) (h1:d8 Tryz.prog 114 [.val (num r.id),.val (num 1),.val (num 1000000)] (.ret (.val (.bool b1)) []) []) (h2:d8 Tryz.prog 114 [.val (num r.born),.val (num 0),.val (num 1000000)] (.ret (.val (.bool b2)) []) [])
 (h3:d8 Tryz.prog 114 [.val (num r.tries),.val (num 0),.val (num 3)] (.ret (.val (.bool b3)) []) []) (h4:d8 Tryz.prog 243 [.val (tx r.body)] (.ret (.val (.bool b4)) []) []) :
 d8 Tryz.prog 242 [.val (i7 r)] (.ret (.val (.bool (b1 && b2 && b3 && b4))) []) []:=by
 refine f6 mixed ok242 rfl (fun _=>rfl) ?_
 unfold ir242
 rw [b6]
 simp [d9,f9,j8,b8,d7,i7,tx,num]
 refine b7 rfl rfl (.inl rfl) h1 ?_
 cases b1 with
 | false=>simp
 | true=>
  simp [num]
  refine b7 rfl rfl (.inl rfl) h2 ?_
  cases b2 with
  | false=>simp
  | true=>
   simp [num]
   refine b7 rfl rfl (.inl rfl) h3 ?_
   cases b3 with
   | false=>simp
   | true=>
    simp [num]
    refine b7 rfl rfl (.inl rfl) h4 ?_
    cases b4<;>simp
theorem c4o (r:LReport):d8 Tryz.prog 242 [.val (i7 r)] (.ret (.val (.bool (Z5 r))) []) []:=
 b6t r _ _ _ _ (R5 r.id 1 1000000) (R5 r.born 0 1000000) (R5 r.tries 0 3) (c1q r.body)
theorem c4k (n:Int):d8 Tryz.prog 184 [.val (num n)] (.ret (.val (.bool (decide (100≤n∧n≤599)))) []) []:=by
 refine f6 mixed ok184 rfl (fun _=>rfl) ?_
 unfold ir184
 rw [b6]
 have h:=R5 n 100 599
 simp [d9,f9,j8,b8,d7,num]
 refine b7 rfl rfl (.inl rfl) h ?_
 simp
theorem c74 (q:LQueue) (hb:a2n 1048576 q):d8 Tryz.prog 178 [.val (K8 q)] (.ret (.val (.bool (S8 q))) []) []:=by
 refine f6 mixed ok178 rfl (fun _=>rfl) ?_
 unfold ir178
 rw [b6]
 by_cases h5:q.items.length≤5
 rotate_left
 · have h5':(5:Int) < q.items.length:=by omega
   have:S8 q=false:=by unfold S8;rw [decide_eq_false h5];rfl
   simp [d9,f9,j8,b8,d7,K8,h5',this]
 have h5':¬ (5:Int) < q.items.length:=by omega
 by_cases h6:q.recent.length≤6
 rotate_left
 · have h6':(6:Int) < q.recent.length:=by omega
   have:S8 q=false:=by unfold S8;rw [decide_eq_false h6];simp
   simp [d9,f9,j8,b8,d7,K8,h5',h6',this]
 have h6':¬ (6:Int) < q.recent.length:=by omega
 have hfin:a0i q.items.length (a5j q.items)=true→a0i q.recent.length (a9m q.recent)=true→S8 q=true:=fun a b=>by
  unfold S8;rw [decide_eq_true h5,decide_eq_true h6,a,b];rfl
 simp [d9,f9,j8,b8,d7,K8,h5',h6']
 refine j7 (X:=Nat) (fun i=>⟨t6 [(1,.ptr 1 0),(18,.val (.list 4 (q.items.map i7))),(19,.val (num q.items.length)),(20,.val (num i))],u1 [(1,.box [.val (.list 4 (q.items.map i7)),.val (.list 1 (q.recent.map tx))])]⟩) (fun i=>i≤q.items.length∧a0i i (a5j q.items)=true) (fun i=>q.items.length - i) 0 (Le.mk _ _ ?_ ?_) ?_ ?_
 · simp [upd,num]
 · simp
 · simp [a1a]
 · rintro i ⟨hi,hall⟩
   simp [num]
   refine f7 (fun h1=>?_) (fun h1=>?_)
   · have G5:=b08 (q:=q) h1
     have hsu:=a0w (a5j q.items) i
     rw [hall,Bool.true_and] at hsu
     obtain ⟨r,hr⟩:∃ r,q.items[i]=r:=⟨_,rfl⟩
     have hR:=c4o r
     have wi:IntKind.i64.wrap ((i:Int)+1)=((i+1:Nat):Int):=by rw [wrap_i64 (by omega) (by omega)];omega
     by_cases h0:i=0
     · subst h0
       rw [b4o h1,hr] at G5 hsu
       simp [num,h1,hr,i7,tx,PV.kill,MObj.kill]
       refine A0 rfl rfl (.inl rfl) hR ?_
       cases hk:Z5 r with
       | false=>simp [G5 hk]
       | true=>
        simp [num]
        refine LoopNext.mk 1 ⟨by omega,by rw [hsu,hk]⟩ (by omega) (Le.mk _ _ ?_ ?_)
        · simp [num,upd,PV.kill];decide
        · simp [tx,PV.kill,MObj.kill]
     · obtain ⟨j,hij⟩:∃ j,i=j+1:=⟨i - 1,by omega⟩
       have hj:j < q.items.length:=by omega
       obtain ⟨s,hs⟩:∃ s,q.items[j]=s:=⟨_,rfl⟩
       have hra:a5j q.items i=(Z5 r && (decide (s.id < r.id) && decide (s.born≤r.born))):=by
        subst hij;rw [b4p h1,hr,hs]
       rw [hra] at G5 hsu
       have wj:IntKind.i64.wrap ((i:Int) - 1)=(j:Int):=by rw [wrap_i64 (by omega) (by omega)];omega
       have hp:0 < i:=by omega
       simp [num,h1,hr,i7,tx,PV.kill,MObj.kill]
       refine A0 rfl rfl (.inl rfl) hR ?_
       cases hk:Z5 r with
       | false=>simp [G5 (by rw [hk];rfl)]
       | true=>
        rw [hk,Bool.true_and] at G5 hsu
        by_cases hA:s.id < r.id
        · have hA':¬ r.id≤s.id:=by omega
          by_cases hB:s.born≤r.born
          · have hB':¬ r.born < s.born:=by omega
            simp [num,h1,hr,hs,hj,hp,wj,i7,tx,PV.kill,MObj.kill,hA',hB']
            refine LoopNext.mk (i+1) ⟨by omega,by rw [hsu,decide_eq_true hA,decide_eq_true hB];rfl⟩ (by omega) (Le.mk _ _ ?_ ?_)
            · simp [num,wi,PV.kill]
            · simp [tx,PV.kill,MObj.kill]
          · have hB':r.born < s.born:=by omega
            simp [num,h1,hr,hs,hj,hp,wj,i7,tx,PV.kill,MObj.kill,hA',hB',G5 (by rw [decide_eq_false hB,Bool.and_false])]
        · have hA':r.id≤s.id:=by omega
          simp [num,h1,hr,hs,hj,hp,wj,i7,tx,PV.kill,MObj.kill,hA',G5 (by rw [decide_eq_false hA,Bool.false_and])]
   · have e:i=q.items.length:=by omega
     subst e
     simp [num]
     refine j7 (X:=Nat) (fun i=>⟨t6 [(1,.ptr 1 0),(58,.val (.list 1 (q.recent.map tx))),(59,.val (num q.recent.length)),(60,.val (num i))],u1 [(1,.box [.val (.list 4 (q.items.map i7)),.val (.list 1 (q.recent.map tx))])]⟩) (fun i=>i≤q.recent.length∧a0i i (a9m q.recent)=true) (fun i=>q.recent.length - i) 0 (Le.mk _ _ ?_ ?_) ?_ ?_
     · simp [upd,num]
     · simp
     · simp [a1a]
     · rintro i ⟨hi2,hall2⟩
       simp [num]
       refine f7 (fun h1=>?_) (fun h1=>?_)
       · have G5:=b09 (q:=q) h1
         have hsu:=a0w (a9m q.recent) i
         rw [hall2,Bool.true_and] at hsu
         rw [c0q h1] at G5 hsu
         obtain ⟨r,hr⟩:∃ r,q.recent[i]=r:=⟨_,rfl⟩
         rw [hr] at G5 hsu
         have hR:=c1q r
         have hH:=a45 (q.recent.take i) r (by simp;omega)
         have wi:IntKind.i64.wrap ((i:Int)+1)=((i+1:Nat):Int):=by rw [wrap_i64 (by omega) (by omega)];omega
         have hile:i≤q.recent.length:=by omega
         simp [num,h1,hr,tx,b9]
         refine b7 rfl rfl (.inl rfl) hR ?_
         cases hk:decide (1≤r.length∧r.length≤8000) with
         | false=>simp [G5 (by rw [hk];rfl)]
         | true=>
          rw [hk,Bool.true_and] at G5 hsu
          simp [num,h1,hr,tx,hile,← List.map_take]
          refine b7 rfl rfl (.inl rfl) hH ?_
          by_cases hm:r∈q.recent.take i
          · simp [hm,G5 (by rw [decide_eq_false (fun h=>h hm)])]
          · simp [hm]
            refine LoopNext.mk (i+1) ⟨by omega,by rw [hsu,decide_eq_true hm]⟩ (by omega) (Le.mk _ _ ?_ ?_)
            · simp [num,wi]
            · simp [tx]
       · have e:i=q.recent.length:=by omega
         subst e
         simp [hfin hall hall2]
def b1w (p:LPipe):List RV:=[.list 6 (p.channels.map j5),tx p.policy.reportTo,.list 1 (p.policy.uris.map tx),.list 2 (p.policy.rules.map l4),num p.now,num p.next,.list 3 (p.log.map G0),.list 7 (p.wires.map H5)]
theorem c73 (r:LReport) (p:LPipe):d8 Tryz.prog 180 [.val (i7 r),.box (b1w p)] (.ret (.val (.bool (!(decide (r.id < p.next) && decide (r.born≤p.now))))) []) [b1w p]:=by
 unfold b1w
 refine U9 mixed ok180 rfl (fun _=>rfl) ?_
 unfold ir180
 rw [b6]
 by_cases hA:r.id < p.next
 · have hA':¬ p.next≤r.id:=by omega
   by_cases hB:r.born≤p.now
   · have hB':¬ p.now < r.born:=by omega
     simp [d9,f9,j8,b8,d7,i7,tx,num,hA,hA',hB,hB',S3,R3]
   · have hB':p.now < r.born:=by omega
     simp [d9,f9,j8,b8,d7,i7,tx,num,hA,hA',hB,hB',S3,R3]
 · have hA':p.next≤r.id:=by omega
   simp [d9,f9,j8,b8,d7,i7,tx,num,hA,hA',S3,R3]
end Go.Proofs
end
section
namespace Go.Proofs
open Go.PW Go.KP
attribute [local simp] RV.cells RV.one PV.cells PV.solid PV.one G1 i6 L8 K7 RV.ofCells elems PV.killL
variable [GH]
theorem b5i (a b:List LTarget) (ha:a.length < 1099511627776) (hb:b.length < 1099511627776):d8 Tryz.prog 176 [.val (.list 3 (a.map f8)),.val (.list 3 (b.map f8))] (.ret (.val (.bool (decide (a=b)))) []) []:=by
 refine f6 mixed ok176 rfl (fun _=>rfl) ?_
 unfold ir176
 rw [b6]
 by_cases hlen:a.length=b.length
 rotate_left
 · have h1:¬ (a.length:Int)=b.length:=by omega
   have h2:a≠b:=fun e=>hlen (by rw [e])
   simp [d9,f9,j8,b8,d7,h1,h2]
 simp [d9,f9,j8,b8,d7,num,hlen]
 refine j7 (X:=Nat) (fun i=>⟨t6 [(0,.val (.list 3 (a.map f8))),(1,.val (.list 3 (b.map f8))),(12,.val (num b.length)),(13,.val (num i))],u1 []⟩) (fun i=>i≤b.length∧a.take i=b.take i) (fun i=>b.length - i) 0 (Le.mk _ _ ?_ ?_) ?_ ?_
 · simp [upd,num]
 · simp
 · simp
 · rintro i ⟨hi,heq⟩
   simp [num]
   refine f7 (fun h1b=>?_) (fun h1=>?_)
   · have h1:i < a.length:=by omega
     obtain ⟨x,hx⟩:∃ x,a[i]=x:=⟨_,rfl⟩
     obtain ⟨y,hy⟩:∃ y,b[i]=y:=⟨_,rfl⟩
     have hne:x≠y→a≠b:=fun h e=>h (by subst e;rw [← hx,← hy])
     have wi:IntKind.i64.wrap ((i:Int)+1)=((i+1:Nat):Int):=by rw [wrap_i64 (by omega) (by omega)];omega
     by_cases hu:x.url=y.url
     · by_cases hp:x.prio=y.prio
       · by_cases hw:x.weight=y.weight
         · have hxy:x=y:=by
            cases x;cases y
            simp only at hu hp hw
            subst hu;subst hp;subst hw;rfl
           simp [num,h1,h1b,hx,hy,f8,tx,P0,a4n,a3t,L2,hu,hp,hw]
           refine LoopNext.mk (i+1) ⟨by omega,?_⟩ (by omega) (Le.mk _ _ ?_ ?_)
           · rw [List.take_add_one,List.take_add_one,List.getElem?_eq_getElem h1,List.getElem?_eq_getElem h1b,heq,hx,hy,hxy]
           · simp [num,wi]
           · simp
         · simp [num,h1,h1b,hx,hy,f8,tx,P0,a4n,a3t,L2,hu,hp,hw,hne (fun e=>hw (by rw [e]))]
       · simp [num,h1,h1b,hx,hy,f8,tx,P0,a4n,a3t,L2,hu,hp,hne (fun e=>hp (by rw [e]))]
     · simp [num,h1,h1b,hx,hy,f8,tx,P0,a4n,a3t,L2,hu,hne (fun e=>hu (by rw [e]))]
   · have e:i=b.length:=by omega
     subst e
     rw [← hlen,List.take_length,hlen,List.take_length] at heq
     simp [heq]
theorem c4m (c:LChannel) (name:Tx):d8 Tryz.prog 182 [.val (j5 c),.box [tx name]] (.ret (.val (.bool (decide (c.group.name=name)))) []) [[tx name]]:=by
 refine U9 mixed ok182 rfl (fun _=>rfl) ?_
 unfold ir182
 rw [b6]
 simp [d9,f9,j8,b8,d7,j5,tx,num,L2,S3,R3]
theorem c72 (p:LPipe) (name:Tx) (hl:p.channels.length < 1099511627776):d8 Tryz.prog 116 [.val (L4 p),.val (tx name)] (.ret (.val (num (a07 p.channels fun c=>decide (c.group.name=name)))) []) []:=by
 have h:=a7j p.channels 182 (tx name) (fun c=>decide (c.group.name=name)) hl (by kernel_rfl) (fun c _=>c4m c name)
 refine f6 mixed ok116 rfl (fun _=>rfl) ?_
 unfold ir116
 rw [b6]
 simp [d9,f9,j8,b8,d7,L4,tx,num]
 refine T2 (ids:=[3]) rfl rfl (by simp) (by decide) (by simp [a2z,x9,F5,y4,F3,y5,q7,y0,F4,l6,A5,G6,G7,j6,p5,p6,l0,y6,p9,l2,F2,x8,p8,p7,D3,D4,a0u,a0v,Option.getD_some,Option.getD_none,C0,t8,o5,D0,o4,n7,D2,n8,D1,C9,C8,H1,w6,o2,C6,v8,o1,C5,B8,C7,w5,C3,n6,v7,C4,H3,H2,B9,C1,n9,C2,w7,o3,A8,l8,B7,B6,B5,G8,u9,m8,B3,u6,l9,B2,A6,B4,u7,B0,l7,u5,B1,H0,G9,A7,u4,n5,A9,v6,n0,J1,J0,K4,J2,J6,J4,J3,K3,J5,J7,J8,J9,K2,y9,y8,y7,M0,M1,z7,F6,u0,D8,x1,K6,q8,Q1,M4,L6,N6,N8,N7,Q2,Q3,I3,I5,I4,I6,I7,N3,x3,N2,D9,E1,E2,x4,a0x,E9,x7,P9,Q0,H4,M2,M3,Option.map_some,Option.map_none,E3,x5,w9,o6,D6,D7,H7,H6,O3,O2,I9,F0,F1,I8,N9,O0,H9,o8,I0,o7,M7,E8,E7,l1,N5,O1,I2,M9,N1,N0,x2,A2,A4,A3,k6,N4,Q5,Q4,M5,I1,U3,M6,o9,E5,E6,x6,E4,k9,u2,k8,u3,k7,K5,O4,O5,z1,z6,F8,F7,D5,tx]) rfl h ?_
 simp
theorem c1r (p:LPipe) (c:LChannel) (hb:Q8 1048576 c):d8 Tryz.prog 115 [.val (L4 p),.val (j5 c)] (.ret (.val (.bool (R2 p.next p.now c))) []) []:=by
 have hG:=c79 c.group hb.1
 have hpl:c.peers.length≤1048576:=hb.2.1.1
 have htl:c.group.targets.length≤1048576:=hb.1.2.1
 have hql:c.queue.items.length≤1048576:=hb.2.2.1.1
 have hP:=c78 c.peers (by omega) (fun x hx=>by have:=hb.2.1.2 x hx;unfold a1d U4 at this;omega)
 have hT:=b3a c.peers (by omega)
 have hE:=b5i (tgs c.peers) c.group.targets (by simp [tgs];omega) (by omega)
 have hQ:=c74 c.queue hb.2.2
 have hC:=a6g c.queue.items 180 (.list 6 (p.channels.map j5)) (tx p.policy.reportTo) (.list 1 (p.policy.uris.map tx)) (.list 2 (p.policy.rules.map l4)) (num p.now) (num p.next) (.list 3 (p.log.map G0)) (.list 7 (p.wires.map H5)) (fun r=>!(decide (r.id < p.next) && decide (r.born≤p.now))) (by omega) (by kernel_rfl) (fun r _=>c73 r p)
 have hch:R2 p.next p.now c=(a3d c.group && a0d c.peers && decide (tgs c.peers=c.group.targets) && S8 c.queue && !(c.queue.items.any fun r=>!(decide (r.id < p.next) && decide (r.born≤p.now)))):=by
  unfold R2 tgs
  rw [List.not_any_eq_all_not]
  simp only [Bool.not_not]
 rw [hch]
 refine f6 mixed ok115 rfl (fun _=>rfl) ?_
 unfold ir115
 rw [b6]
 simp [d9,f9,j8,b8,d7,L4,j5,tx,num]
 refine A0 rfl rfl (.inl rfl) hG ?_
 cases a3d c.group with
 | false=>simp
 | true=>
 simp [num]
 refine A0 rfl rfl (.inl rfl) hP ?_
 cases a0d c.peers with
 | false=>simp
 | true=>
 simp [num]
 refine A0 rfl rfl (.inl rfl) hT ?_
 simp [num]
 refine A0 rfl rfl (.inl rfl) hE ?_
 cases decide (tgs c.peers=c.group.targets) with
 | false=>simp
 | true=>
 simp [num]
 refine A0 rfl rfl (.inl rfl) hQ ?_
 cases S8 c.queue with
 | false=>simp
 | true=>
 simp [num]
 refine T2 (ids:=[2]) rfl rfl (by simp) (by decide) (by simp [a2z,x9,F5,y4,F3,y5,q7,y0,F4,l6,A5,G6,G7,j6,p5,p6,l0,y6,p9,l2,F2,x8,p8,p7,D3,D4,a0u,a0v,Option.getD_some,Option.getD_none,C0,t8,o5,D0,o4,n7,D2,n8,D1,C9,C8,H1,w6,o2,C6,v8,o1,C5,B8,C7,w5,C3,n6,v7,C4,H3,H2,B9,C1,n9,C2,w7,o3,A8,l8,B7,B6,B5,G8,u9,m8,B3,u6,l9,B2,A6,B4,u7,B0,l7,u5,B1,H0,G9,A7,u4,n5,A9,v6,n0,J1,J0,K4,J2,J6,J4,J3,K3,J5,J7,J8,J9,K2,y9,y8,y7,M0,M1,z7,F6,u0,D8,x1,K6,q8,Q1,M4,L6,N6,N8,N7,Q2,Q3,I3,I5,I4,I6,I7,N3,x3,N2,D9,E1,E2,x4,a0x,E9,x7,P9,Q0,H4,M2,M3,Option.map_some,Option.map_none,E3,x5,w9,o6,D6,D7,H7,H6,O3,O2,I9,F0,F1,I8,N9,O0,H9,o8,I0,o7,M7,E8,E7,l1,N5,O1,I2,M9,N1,N0,x2,A2,A4,A3,k6,N4,Q5,Q4,M5,I1,U3,M6,o9,E5,E6,x6,E4,k9,u2,k8,u3,k7,K5,O4,O5,z1,z6,F8,F7,D5,tx,num]) rfl hC ?_
 simp
theorem b98 (p:LPipe) (w:LWire) (b1 b2 b3 b5:Bool) (hn:1≤p.next∧p.next≤1000000) (hil:w.ids.length≤1048576) (h1:d8 Tryz.prog 114 [.val (num w.at_),.val (num 0),.val (num p.now)] (.ret (.val (.bool b1)) []) [])
 (h2:d8 Tryz.prog 184 [.val (num w.status)] (.ret (.val (.bool b2)) []) []) (h3:d8 Tryz.prog 185 [.val (tx w.group)] (.ret (.val (.bool b3)) []) [])
 (h5:d8 Tryz.prog 114 [.val (num w.ids.length),.val (num 1),.val (num 3)] (.ret (.val (.bool b5)) []) []) :
 d8 Tryz.prog 119 [.val (L4 p),.val (H5 w)] (.ret (.val (.bool (b1 && b2 && b3 && decide (w.url.length≤100) && b5 && decide (w.body.length≤65536) && a0i w.ids.length (a78 p.next w.ids)))) []) []:=by
 refine f6 mixed ok119 rfl (fun _=>rfl) ?_
 unfold ir119
 rw [b6]
 simp [d9,f9,j8,b8,d7,L4,H5,tx,num]
 refine b7 rfl rfl (.inl rfl) h1 ?_
 cases b1 with
 | false=>simp
 | true=>
 simp [num]
 refine b7 rfl rfl (.inl rfl) h2 ?_
 cases b2 with
 | false=>simp
 | true=>
 simp [num]
 refine b7 rfl rfl (.inl rfl) h3 ?_
 cases b3 with
 | false=>simp
 | true=>
 by_cases hu:w.url.length≤100
 rotate_left
 · have hu':(100:Int) < w.url.length:=by omega
   simp [num,b9,hu',hu]
 have hu':¬ (100:Int) < w.url.length:=by omega
 simp [num,b9,hu',hu]
 refine b7 rfl rfl (.inl rfl) h5 ?_
 cases b5 with
 | false=>simp
 | true=>
 by_cases hy:w.body.length≤65536
 rotate_left
 · have hy':(65536:Int) < w.body.length:=by omega
   simp [num,b9,hy',hy]
 have hy':¬ (65536:Int) < w.body.length:=by omega
 simp [num,b9,hy',hy]
 have wn:IntKind.i64.wrap (p.next - 1)=p.next - 1:=wrap_i64 (by omega) (by omega)
 refine j7 (X:=Nat) (fun i=>⟨t6 [(2,.ptr 2 0),(3,.ptr 3 0),(45,.val (.list 1 (w.ids.map num))),(46,.val (num w.ids.length)),(47,.val (num i))],u1 [(2,V9 p),(3,b6o w)]⟩) (fun i=>i≤w.ids.length∧a0i i (a78 p.next w.ids)=true) (fun i=>w.ids.length - i) 0 (Le.mk _ _ ?_ ?_) ?_ ?_
 · simp [upd,num,PV.kill]
 · simp [V9,b6o,tx,num,MObj.kill,PV.kill]
 · simp [a1a]
 · rintro i ⟨hi,hall⟩
   simp [num,b6o]
   refine f7 (fun hlt=>?_) (fun hlt=>?_)
   · have G5:a78 p.next w.ids i=false→a0i w.ids.length (a78 p.next w.ids)=false:=a4j hlt
     have hsu:=a0w (a78 p.next w.ids) i
     rw [hall,Bool.true_and] at hsu
     obtain ⟨r,hr⟩:∃ r,w.ids[i]=r:=⟨_,rfl⟩
     have hR:=R5 r 1 (p.next - 1)
     have wi:IntKind.i64.wrap ((i:Int)+1)=((i+1:Nat):Int):=by rw [wrap_i64 (by omega) (by omega)];omega
     by_cases h0:i=0
     · subst h0
       rw [b7w hlt,hr] at G5 hsu
       simp [num,hlt,hr,tx,V9,wn]
       refine b7 rfl rfl (.inl rfl) hR ?_
       cases hk:decide (1≤r∧r≤p.next - 1) with
       | false=>simp [G5 hk]
       | true=>
        simp [num]
        refine LoopNext.mk 1 ⟨by omega,by rw [hsu,hk]⟩ (by omega) (Le.mk _ _ ?_ ?_)
        · simp [num,upd];decide
        · simp [tx,V9,b6o,num]
     · obtain ⟨j,hij⟩:∃ j,i=j+1:=⟨i - 1,by omega⟩
       have hj:j < w.ids.length:=by omega
       obtain ⟨s,hs⟩:∃ s,w.ids[j]=s:=⟨_,rfl⟩
       have hra:a78 p.next w.ids i=(decide (1≤r∧r≤p.next - 1) && decide (s < r)):=by
        subst hij;rw [b7x hlt,hr,hs]
       rw [hra] at G5 hsu
       have wj:IntKind.i64.wrap ((i:Int) - 1)=(j:Int):=by rw [wrap_i64 (by omega) (by omega)];omega
       have hp:0 < i:=by omega
       simp [num,hlt,hr,tx,V9,wn]
       refine b7 rfl rfl (.inl rfl) hR ?_
       cases hk:decide (1≤r∧r≤p.next - 1) with
       | false=>simp [G5 (by rw [hk];rfl)]
       | true=>
        rw [hk,Bool.true_and] at G5 hsu
        by_cases hA:s < r
        · have hA':¬ r≤s:=by omega
          simp [num,hlt,hr,hs,hj,hp,wj,tx,hA']
          refine LoopNext.mk (i+1) ⟨by omega,by rw [hsu,decide_eq_true hA]⟩ (by omega) (Le.mk _ _ ?_ ?_)
          · simp [num,wi]
          · simp [tx,V9,b6o,num]
        · have hA':r≤s:=by omega
          simp [num,hlt,hr,hs,hj,hp,wj,tx,hA',G5 (decide_eq_false hA)]
   · have e:i=w.ids.length:=by omega
     subst e
     simp [hall,hu,hy]
theorem d0w (p:LPipe) (w:LWire) (hn:1≤p.next∧p.next≤1000000) (hb:Z4 1048576 w):d8 Tryz.prog 119 [.val (L4 p),.val (H5 w)] (.ret (.val (.bool (X3 p.next p.now w))) []) []:=by
 have hgl:w.group.length≤1048576:=hb.1
 have hil:w.ids.length≤1048576:=hb.2.2.1
 have q:(1≤w.ids.length∧w.ids.length≤3)↔((1:Int)≤w.ids.length∧(w.ids.length:Int)≤3):=by omega
 unfold X3
 rw [decide_eq_decide.2 q]
 exact b98 p w _ _ _ _ hn hil (R5 w.at_ 0 p.now) (c4k w.status) (b5h w.group (by omega)) (R5 w.ids.length 1 3)
end Go.Proofs
end
section
namespace Go.Proofs
open Go.PW Go.KP
attribute [local simp] RV.cells RV.one PV.cells PV.solid PV.one G1 i6 L8 K7 RV.ofCells elems PV.killL
variable [GH]
theorem c77 (w:LWire) (p:LPipe) (hn:1≤p.next∧p.next≤1000000) (hb:Z4 1048576 w):d8 Tryz.prog 118 [.val (H5 w),.box (b1w p)] (.ret (.val (.bool (!X3 p.next p.now w))) []) [b1w p]:=by
 have hW:=d0w p w hn hb
 unfold b1w
 refine U9 mixed ok118 rfl (fun _=>rfl) ?_
 unfold ir118
 rw [b6]
 simp [d9,f9,j8,b8,d7,H5,tx,num]
 refine b7 rfl rfl (.inl rfl) hW ?_
 simp [num,tx,S3,R3]
theorem d06 (p:LPipe) (hb:a1c 1048576 p):d8 Tryz.prog 61 [.val (L4 p)] (.ret (.val (.bool (O7 p))) []) []:=by
 have hcl:p.channels.length≤1048576:=hb.1.1
 have hP:=c4p p.policy hb.2.1
 have hN:=i_isNow p.now
 have hX:=R5 p.next 1 1000000
 refine f6 mixed ok61 rfl (fun _=>rfl) ?_
 unfold ir61
 rw [b6]
 by_cases h5:p.channels.length≤5
 rotate_left
 · have h5':(5:Int) < p.channels.length:=by omega
   have hf:O7 p=false:=by unfold O7;rw [decide_eq_false h5];rfl
   simp [d9,f9,j8,b8,d7,L4,tx,num,h5',hf]
 have h5':¬ (5:Int) < p.channels.length:=by omega
 simp [d9,f9,j8,b8,d7,L4,tx,num,h5']
 refine b7 rfl rfl (.inl rfl) hP ?_
 cases hpol:Y0 p.policy with
 | false=>
  have hf:O7 p=false:=by unfold O7;rw [hpol];simp
  simp [hf]
 | true=>
 simp [num]
 refine b7 rfl rfl (.inl rfl) hN ?_
 cases hnow:decide (0≤p.now∧p.now≤1000000) with
 | false=>
  have hf:O7 p=false:=by unfold O7;rw [hnow];simp
  simp [hf]
 | true=>
 simp [num]
 refine b7 rfl rfl (.inl rfl) hX ?_
 cases hnext:decide (1≤p.next∧p.next≤1000000) with
 | false=>
  have hf:O7 p=false:=by unfold O7;rw [hnext];simp
  simp [hf]
 | true=>
 by_cases hll:p.log.length≤4096
 rotate_left
 · have hll':(4096:Int) < p.log.length:=by omega
   have hf:O7 p=false:=by unfold O7;rw [decide_eq_false hll];simp
   simp [num,hll',hf]
 have hll':¬ (4096:Int) < p.log.length:=by omega
 by_cases hwl:p.wires.length≤4096
 rotate_left
 · have hwl':(4096:Int) < p.wires.length:=by omega
   have hf:O7 p=false:=by unfold O7;rw [decide_eq_false hwl];simp
   simp [num,hll',hwl',hf]
 have hwl':¬ (4096:Int) < p.wires.length:=by omega
 have hpk:O7 p=(a0i p.channels.length (a3j p) && a0i p.log.length (a4g p.next p.now p.log) && p.wires.all (X3 p.next p.now)):=by
  unfold O7;rw [decide_eq_true h5,hpol,hnow,hnext,decide_eq_true hll,decide_eq_true hwl];simp
 have hn2:1≤p.next∧p.next≤1000000:=of_decide_eq_true hnext
 have wn:IntKind.i64.wrap (p.next - 1)=p.next - 1:=wrap_i64 (by omega) (by omega)
 have hpk2:O7 p=(a0i p.channels.length (a3j p) && a0i p.log.length (a4g p.next p.now p.log) && !(p.wires.any fun w=>!X3 p.next p.now w)):=by
  rw [hpk,List.not_any_eq_all_not]
  simp only [Bool.not_not]
 have hC:=a7k p.wires 118 (.list 6 (p.channels.map j5)) (tx p.policy.reportTo) (.list 1 (p.policy.uris.map tx)) (.list 2 (p.policy.rules.map l4)) (num p.now) (num p.next) (.list 3 (p.log.map G0)) (.list 7 (p.wires.map H5)) (fun w=>!X3 p.next p.now w) (by omega) (by kernel_rfl) (fun w hw=>c77 w p hn2 (hb.2.2.2.2 w hw))
 rw [hpk2]
 simp [num,hll',hwl']
 refine j7 (X:=Nat) (fun i=>⟨t6 [(1,.ptr 1 0),(43,.val (.list 6 (p.channels.map j5))),(44,.val (num p.channels.length)),(45,.val (num i))],u1 [(1,V9 p)]⟩) (fun i=>i≤p.channels.length∧a0i i (a3j p)=true) (fun i=>p.channels.length - i) 0 (Le.mk _ _ ?_ ?_) ?_ ?_
 · simp [upd,num,PV.kill]
 · simp [V9,tx,num,MObj.kill,PV.kill]
 · simp [a1a]
 · rintro i ⟨hi,hall⟩
   simp [num,V9]
   refine f7 (fun hlt=>?_) (fun hlt=>?_)
   · have G5:a3j p i=false→(a0i p.channels.length (a3j p) && a0i p.log.length (a4g p.next p.now p.log) && !(p.wires.any fun w=>!X3 p.next p.now w))=false:=fun h=>by rw [a4j hlt h];rfl
     have hsu:=a0w (a3j p) i
     rw [hall,Bool.true_and] at hsu
     rw [b2i hlt] at G5 hsu
     have hnm:=c2k p i hlt
     obtain ⟨c,hc⟩:∃ c,p.channels[i]=c:=⟨_,rfl⟩
     have hbc:Q8 1048576 c:=by rw [← hc];exact hb.1.2 _ (List.getElem_mem hlt)
     rw [hc] at G5 hsu hnm
     have hA:=c72 p c.group.name (by omega)
     have hCh:=c1r p c hbc
     have wi:IntKind.i64.wrap ((i:Int)+1)=((i+1:Nat):Int):=by rw [wrap_i64 (by omega) (by omega)];omega
     simp [num,hlt,hc,j5,tx,PV.kill,MObj.kill]
     refine b7 rfl rfl (.inl rfl) hCh ?_
     cases hk:R2 p.next p.now c with
     | false=>simp [G5 (by rw [hk,Bool.and_false])]
     | true=>
      rw [hk,Bool.and_true] at G5 hsu
      simp [num,tx,PV.kill,MObj.kill]
      refine b7 rfl rfl (.inl rfl) hA ?_
      by_cases hu:c.group.name∈(p.channels.map fun c=>c.group.name).take i
      · have hne:¬ (a07 p.channels fun x=>decide (x.group.name=c.group.name))=(i:Int):=fun h=>hnm.1 h hu
        simp [num,hne,G5 (decide_eq_false (fun h=>h hu))]
      · have heq:=hnm.2 hu
        simp [num,heq]
        refine LoopNext.mk (i+1) ⟨by omega,by rw [hsu,decide_eq_true hu]⟩ (by omega) (Le.mk _ _ ?_ ?_)
        · simp [num,wi,PV.kill]
        · simp [tx,V9,num,PV.kill,MObj.kill]
   · have e:i=p.channels.length:=by omega
     subst e
     rw [hall,Bool.true_and]
     simp [num]
     refine j7 (X:=Nat) (fun i=>⟨t6 [(1,.ptr 1 0),(5,.val (num (a9v p.log i))),(65,.val (.list 3 (p.log.map G0))),(66,.val (num p.log.length)),(67,.val (num i))],u1 [(1,V9 p)]⟩) (fun i=>i≤p.log.length∧a0i i (a4g p.next p.now p.log)=true) (fun i=>p.log.length - i) 0 (Le.mk _ _ ?_ ?_) ?_ ?_
     · simp [upd,num,PV.kill,a9v]
     · simp [V9,tx,num,MObj.kill,PV.kill]
     · simp [a1a]
     · rintro i ⟨hi2,hall2⟩
       simp [num,V9]
       refine f7 (fun hlt=>?_) (fun hlt=>?_)
       · have G5:a4g p.next p.now p.log i=false→(a0i p.log.length (a4g p.next p.now p.log) && !(p.wires.any fun w=>!X3 p.next p.now w))=false:=fun h=>by rw [a4j hlt h];rfl
         have hsu:=a0w (a4g p.next p.now p.log) i
         rw [hall2,Bool.true_and] at hsu
         rw [b5y hlt] at G5 hsu
         have hls:=b0h hlt
         obtain ⟨x,hx⟩:∃ x,p.log[i]=x:=⟨_,rfl⟩
         rw [hx] at G5 hsu hls
         have hK:=R5 x.kind 1 7
         have hI:=R5 x.id 1 (p.next - 1)
         have hT:=R5 x.at_ (a9v p.log i) p.now
         have wi:IntKind.i64.wrap ((i:Int)+1)=((i+1:Nat):Int):=by rw [wrap_i64 (by omega) (by omega)];omega
         simp [num,hlt,hx,G0,tx,PV.kill,MObj.kill]
         refine b7 rfl rfl (.inl rfl) hK ?_
         cases hk:decide (1≤x.kind∧x.kind≤7) with
         | false=>simp [G5 (by rw [hk];rfl)]
         | true=>
         rw [hk,Bool.true_and] at G5 hsu
         simp [num,wn,PV.kill]
         refine b7 rfl rfl (.inl rfl) hI ?_
         cases hid:decide (1≤x.id∧x.id≤p.next - 1) with
         | false=>simp [G5 (by rw [hid];rfl)]
         | true=>
         rw [hid,Bool.true_and] at G5 hsu
         simp [num,wn,PV.kill]
         refine b7 rfl rfl (.inl rfl) hT ?_
         cases hat:decide (a9v p.log i≤x.at_∧x.at_≤p.now) with
         | false=>simp [G5 hat]
         | true=>
          simp [num,PV.kill]
          refine LoopNext.mk (i+1) ⟨by omega,by rw [hsu,hat]⟩ (by omega) (Le.mk _ _ ?_ ?_)
          · simp [num,wi,PV.kill,hls]
          · simp [tx,V9,num,PV.kill,MObj.kill]
       · have e:i=p.log.length:=by omega
         subst e
         rw [hall2,Bool.true_and]
         simp [num]
         refine T2 (ids:=[1]) rfl rfl (by simp) (by decide) (by simp [a2z,x9,F5,y4,F3,y5,q7,y0,F4,l6,A5,G6,G7,j6,p5,p6,l0,y6,p9,l2,F2,x8,p8,p7,D3,D4,a0u,a0v,Option.getD_some,Option.getD_none,C0,t8,o5,D0,o4,n7,D2,n8,D1,C9,C8,H1,w6,o2,C6,v8,o1,C5,B8,C7,w5,C3,n6,v7,C4,H3,H2,B9,C1,n9,C2,w7,o3,A8,l8,B7,B6,B5,G8,u9,m8,B3,u6,l9,B2,A6,B4,u7,B0,l7,u5,B1,H0,G9,A7,u4,n5,A9,v6,n0,J1,J0,K4,J2,J6,J4,J3,K3,J5,J7,J8,J9,K2,y9,y8,y7,M0,M1,z7,F6,u0,D8,x1,K6,q8,Q1,M4,L6,N6,N8,N7,Q2,Q3,I3,I5,I4,I6,I7,N3,x3,N2,D9,E1,E2,x4,a0x,E9,x7,P9,Q0,H4,M2,M3,Option.map_some,Option.map_none,E3,x5,w9,o6,D6,D7,H7,H6,O3,O2,I9,F0,F1,I8,N9,O0,H9,o8,I0,o7,M7,E8,E7,l1,N5,O1,I2,M9,N1,N0,x2,A2,A4,A3,k6,N4,Q5,Q4,M5,I1,U3,M6,o9,E5,E6,x6,E4,k9,u2,k8,u3,k7,K5,O4,O5,z1,z6,F8,F7,D5,tx,num]) rfl hC ?_
         simp
end Go.Proofs
end
