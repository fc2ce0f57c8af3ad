/- Eg: merged out of KIu, KIv, KIx, KIy. -/
import Derived.Test.YtgdapgcjmfeocaaGreatDoorCa
import Derived.Test.YtgdapgcjmfeocaaGreatDoorAc
import Derived.Test.YtgdapgcjmfeocaaGreatDoorBa
import Derived.Test.YtgdapgcjmfeocaaGreatDoorEb
import Derived.Test.YtgdapgcjmfeocaaGreatDoorEc
import Derived.Test.YtgdapgcjmfeocaaGreatDoorCc
set_option linter.unusedSectionVars false
set_option linter.unusedSimpArgs false
set_option linter.unusedVariables false
set_option maxRecDepth 100000
section
namespace Go.Proofs
open Go.PW Go.KP
attribute [local simp] RV.cells RV.one PV.cells PV.solid PV.one G3 i7 L8 L5 RV.ofCells elems PV.killL
variable [GF]
theorem a77 (l:List LReport) (g:Nat) (c0_0 c0_1 c0_2 c0_3 c0_4 c0_5 c0_6 c0_7:RV) (p:LReport→Bool) (hl:l.length < 1099511627776) (hg:fnB Tryz.prog g=true)
 (hp:∀ x∈l,d8 Tryz.prog g [.val (j4 x),.box [c0_0,c0_1,c0_2,c0_3,c0_4,c0_5,c0_6,c0_7]] (.ret (.val (.bool (p x))) []) [[c0_0,c0_1,c0_2,c0_3,c0_4,c0_5,c0_6,c0_7]]) :
 d8 Tryz.prog 174 [.val (.list 4 (l.map j4)),.fn g [.box [c0_0,c0_1,c0_2,c0_3,c0_4,c0_5,c0_6,c0_7]]] (.ret (.val (num (a06 l p))) []) [[c0_0,c0_1,c0_2,c0_3,c0_4,c0_5,c0_6,c0_7]]:=by
 refine U9 mixed ok174 rfl (fun _=>rfl) ?_
 unfold ir174
 rw [b6]
 simp [d9,i6,j9,b8,d7,j9,i6]
 refine j8 (X:=Nat) (fun i=>⟨t6 [(0,.val (.list 4 (l.map j4))),(1,.fn g [.ptr 900 0]),(7,.val (num l.length)),(8,.val (num i))],t8 [(900,.box [.val c0_0,.val c0_1,.val c0_2,.val c0_3,.val c0_4,.val c0_5,.val c0_6,.val c0_7])]⟩) (fun i=>i≤l.length∧∀ k (hk:k < i) (hk':k < l.length),p l[k]=false) (fun i=>l.length - i) 0 (Le.mk _ _ ?_ ?_) ?_ ?_
 · simp [upd,num]
 · simp
 · simp
 · rintro i ⟨hi,hne⟩
   simp [num]
   refine f8 (fun h1=>?_) (fun h1=>?_)
   · have e1:(l.map j4)[i]?.getD .nilptr=j4 l[i]:=by simp [List.getElem?_eq_getElem h1]
     simp [num,h1,e1,j4,tx,num,hg]
     refine T3 (ids:=[900]) rfl rfl (by simp) (by decide) (by simp [a2y,x9,F6,y4,F4,y5,q7,y0,F5,l7,A6,G7,G8,j6,p5,p6,l1,y6,p9,l3,F3,x8,p8,p7,D4,D5,a0u,a0v,Option.getD_some,Option.getD_none,C1,u0,o5,D1,o4,n8,D3,n9,D2,D0,C9,H2,w6,o2,C7,v8,o1,C6,B9,C8,w5,C4,n7,v7,C5,H4,H3,C0,C2,o0,C3,w7,o3,A9,l9,B8,B7,B6,G9,u9,n0,B4,u6,m8,B3,A7,B5,u7,B1,l8,u5,B2,H1,H0,A8,u4,n6,B0,v6,n5,J2,J1,K5,J3,J7,J5,J4,K4,J6,J8,J9,K2,K3,y9,y8,y7,M0,M1,z7,F7,u1,D9,x1,K7,q8,Q1,M4,L6,N6,N8,N7,Q2,Q3,I4,I6,I5,I7,I8,N3,x3,N2,E1,E2,E3,x4,a0x,F0,x7,P9,Q0,H5,M2,M3,Option.map_some,Option.map_none,E4,x5,w9,o6,D7,D8,H8,H7,O3,O2,J0,F1,F2,I9,N9,O0,I0,o8,I1,o7,M7,E9,E8,l2,N5,O1,I3,M9,N1,N0,x2,A3,A5,A4,k7,N4,Q5,Q4,M5,I2,U4,M6,o9,E6,E7,x6,E5,l0,u2,k9,u3,k8,K6,O4,O5,z1,z6,F9,F8,D6]) rfl (hp l[i] (List.getElem_mem h1)) ?_
     cases hpi:p l[i] with
     | true=>
      simp [S3,R2]
      rw [a0e h1 hpi (fun k hk=>hne k hk (by omega))];rfl
     | false=>
      simp
      refine LoopNext.mk (i+1) ⟨by omega,fun k hk hk'=>?_⟩ (by omega) (Le.mk _ _ ?_ ?_)
      · by_cases e:k=i
        · subst e;exact hpi
        · exact hne k (by omega) hk'
      · simp [num];exact wrap_i64 (by omega) (by omega)
      · simp
   · have e:i=l.length:=by omega
     subst e
     simp [num,S3,R2]
     rw [Y1 (fun k hk=>hne k hk hk)]
theorem a6j (l:List LReport) (g:Nat) (c0_0 c0_1 c0_2 c0_3 c0_4 c0_5 c0_6 c0_7:RV) (p:LReport→Bool) (hl:l.length < 1099511627776) (hg:fnB Tryz.prog g=true)
 (hp:∀ x∈l,d8 Tryz.prog g [.val (j4 x),.box [c0_0,c0_1,c0_2,c0_3,c0_4,c0_5,c0_6,c0_7]] (.ret (.val (.bool (p x))) []) [[c0_0,c0_1,c0_2,c0_3,c0_4,c0_5,c0_6,c0_7]]) :
 d8 Tryz.prog 131 [.val (.list 4 (l.map j4)),.fn g [.box [c0_0,c0_1,c0_2,c0_3,c0_4,c0_5,c0_6,c0_7]]] (.ret (.val (.bool (l.any p))) []) [[c0_0,c0_1,c0_2,c0_3,c0_4,c0_5,c0_6,c0_7]]:=by
 refine U9 mixed ok131 rfl (fun _=>rfl) ?_
 unfold ir131
 rw [b6]
 simp [d9,i6,j9,b8,d7,j9,i6]
 refine T3 (ids:=[900]) rfl rfl (by simp) (by decide) (by simp [a2y,x9,F6,y4,F4,y5,q7,y0,F5,l7,A6,G7,G8,j6,p5,p6,l1,y6,p9,l3,F3,x8,p8,p7,D4,D5,a0u,a0v,Option.getD_some,Option.getD_none,C1,u0,o5,D1,o4,n8,D3,n9,D2,D0,C9,H2,w6,o2,C7,v8,o1,C6,B9,C8,w5,C4,n7,v7,C5,H4,H3,C0,C2,o0,C3,w7,o3,A9,l9,B8,B7,B6,G9,u9,n0,B4,u6,m8,B3,A7,B5,u7,B1,l8,u5,B2,H1,H0,A8,u4,n6,B0,v6,n5,J2,J1,K5,J3,J7,J5,J4,K4,J6,J8,J9,K2,K3,y9,y8,y7,M0,M1,z7,F7,u1,D9,x1,K7,q8,Q1,M4,L6,N6,N8,N7,Q2,Q3,I4,I6,I5,I7,I8,N3,x3,N2,E1,E2,E3,x4,a0x,F0,x7,P9,Q0,H5,M2,M3,Option.map_some,Option.map_none,E4,x5,w9,o6,D7,D8,H8,H7,O3,O2,J0,F1,F2,I9,N9,O0,I0,o8,I1,o7,M7,E9,E8,l2,N5,O1,I3,M9,N1,N0,x2,A3,A5,A4,k7,N4,Q5,Q4,M5,I2,U4,M6,o9,E6,E7,x6,E5,l0,u2,k9,u3,k8,K6,O4,O5,z1,z6,F9,F8,D6]) rfl (a77 l g c0_0 c0_1 c0_2 c0_3 c0_4 c0_5 c0_6 c0_7 p hl hg hp) ?_
 simp [num,S3,R2]
 exact a5l l p
theorem a7i (l:List LChannel) (g:Nat) (c0_0:RV) (p:LChannel→Bool) (hl:l.length < 1099511627776) (hg:fnB Tryz.prog g=true)
 (hp:∀ x∈l,d8 Tryz.prog g [.val (j7 x),.box [c0_0]] (.ret (.val (.bool (p x))) []) [[c0_0]]) :
 d8 Tryz.prog 133 [.val (.list 6 (l.map j7)),.fn g [.box [c0_0]]] (.ret (.val (num (a06 l p))) []) [[c0_0]]:=by
 refine U9 mixed ok133 rfl (fun _=>rfl) ?_
 unfold ir133
 rw [b6]
 simp [d9,i6,j9,b8,d7,j9,i6]
 refine j8 (X:=Nat) (fun i=>⟨t6 [(0,.val (.list 6 (l.map j7))),(1,.fn g [.ptr 900 0]),(7,.val (num l.length)),(8,.val (num i))],t8 [(900,.box [.val c0_0])]⟩) (fun i=>i≤l.length∧∀ k (hk:k < i) (hk':k < l.length),p l[k]=false) (fun i=>l.length - i) 0 (Le.mk _ _ ?_ ?_) ?_ ?_
 · simp [upd,num]
 · simp
 · simp
 · rintro i ⟨hi,hne⟩
   simp [num]
   refine f8 (fun h1=>?_) (fun h1=>?_)
   · have e1:(l.map j7)[i]?.getD .nilptr=j7 l[i]:=by simp [List.getElem?_eq_getElem h1]
     simp [num,h1,e1,L9,K8,j7,tx,num,hg]
     refine T3 (ids:=[900]) rfl rfl (by simp) (by decide) (by simp [a2y,x9,F6,y4,F4,y5,q7,y0,F5,l7,A6,G7,G8,j6,p5,p6,l1,y6,p9,l3,F3,x8,p8,p7,D4,D5,a0u,a0v,Option.getD_some,Option.getD_none,C1,u0,o5,D1,o4,n8,D3,n9,D2,D0,C9,H2,w6,o2,C7,v8,o1,C6,B9,C8,w5,C4,n7,v7,C5,H4,H3,C0,C2,o0,C3,w7,o3,A9,l9,B8,B7,B6,G9,u9,n0,B4,u6,m8,B3,A7,B5,u7,B1,l8,u5,B2,H1,H0,A8,u4,n6,B0,v6,n5,J2,J1,K5,J3,J7,J5,J4,K4,J6,J8,J9,K2,K3,y9,y8,y7,M0,M1,z7,F7,u1,D9,x1,K7,q8,Q1,M4,L6,N6,N8,N7,Q2,Q3,I4,I6,I5,I7,I8,N3,x3,N2,E1,E2,E3,x4,a0x,F0,x7,P9,Q0,H5,M2,M3,Option.map_some,Option.map_none,E4,x5,w9,o6,D7,D8,H8,H7,O3,O2,J0,F1,F2,I9,N9,O0,I0,o8,I1,o7,M7,E9,E8,l2,N5,O1,I3,M9,N1,N0,x2,A3,A5,A4,k7,N4,Q5,Q4,M5,I2,U4,M6,o9,E6,E7,x6,E5,l0,u2,k9,u3,k8,K6,O4,O5,z1,z6,F9,F8,D6]) rfl (hp l[i] (List.getElem_mem h1)) ?_
     cases hpi:p l[i] with
     | true=>
      simp [S3,R2]
      rw [a0e h1 hpi (fun k hk=>hne k hk (by omega))];rfl
     | false=>
      simp
      refine LoopNext.mk (i+1) ⟨by omega,fun k hk hk'=>?_⟩ (by omega) (Le.mk _ _ ?_ ?_)
      · by_cases e:k=i
        · subst e;exact hpi
        · exact hne k (by omega) hk'
      · simp [num];exact wrap_i64 (by omega) (by omega)
      · simp
   · have e:i=l.length:=by omega
     subst e
     simp [num,S3,R2]
     rw [Y1 (fun k hk=>hne k hk hk)]
theorem a98 (l:List LWire) (g:Nat) (c0_0 c0_1 c0_2 c0_3 c0_4 c0_5 c0_6 c0_7:RV) (p:LWire→Bool) (hl:l.length < 1099511627776) (hg:fnB Tryz.prog g=true)
 (hp:∀ x∈l,d8 Tryz.prog g [.val (H6 x),.box [c0_0,c0_1,c0_2,c0_3,c0_4,c0_5,c0_6,c0_7]] (.ret (.val (.bool (p x))) []) [[c0_0,c0_1,c0_2,c0_3,c0_4,c0_5,c0_6,c0_7]]) :
 d8 Tryz.prog 135 [.val (.list 7 (l.map H6)),.fn g [.box [c0_0,c0_1,c0_2,c0_3,c0_4,c0_5,c0_6,c0_7]]] (.ret (.val (num (a06 l p))) []) [[c0_0,c0_1,c0_2,c0_3,c0_4,c0_5,c0_6,c0_7]]:=by
 refine U9 mixed ok135 rfl (fun _=>rfl) ?_
 unfold ir135
 rw [b6]
 simp [d9,i6,j9,b8,d7,j9,i6]
 refine j8 (X:=Nat) (fun i=>⟨t6 [(0,.val (.list 7 (l.map H6))),(1,.fn g [.ptr 900 0]),(7,.val (num l.length)),(8,.val (num i))],t8 [(900,.box [.val c0_0,.val c0_1,.val c0_2,.val c0_3,.val c0_4,.val c0_5,.val c0_6,.val c0_7])]⟩) (fun i=>i≤l.length∧∀ k (hk:k < i) (hk':k < l.length),p l[k]=false) (fun i=>l.length - i) 0 (Le.mk _ _ ?_ ?_) ?_ ?_
 · simp [upd,num]
 · simp
 · simp
 · rintro i ⟨hi,hne⟩
   simp [num]
   refine f8 (fun h1=>?_) (fun h1=>?_)
   · have e1:(l.map H6)[i]?.getD .nilptr=H6 l[i]:=by simp [List.getElem?_eq_getElem h1]
     simp [num,h1,e1,H6,tx,num,hg]
     refine T3 (ids:=[900]) rfl rfl (by simp) (by decide) (by simp [a2y,x9,F6,y4,F4,y5,q7,y0,F5,l7,A6,G7,G8,j6,p5,p6,l1,y6,p9,l3,F3,x8,p8,p7,D4,D5,a0u,a0v,Option.getD_some,Option.getD_none,C1,u0,o5,D1,o4,n8,D3,n9,D2,D0,C9,H2,w6,o2,C7,v8,o1,C6,B9,C8,w5,C4,n7,v7,C5,H4,H3,C0,C2,o0,C3,w7,o3,A9,l9,B8,B7,B6,G9,u9,n0,B4,u6,m8,B3,A7,B5,u7,B1,l8,u5,B2,H1,H0,A8,u4,n6,B0,v6,n5,J2,J1,K5,J3,J7,J5,J4,K4,J6,J8,J9,K2,K3,y9,y8,y7,M0,M1,z7,F7,u1,D9,x1,K7,q8,Q1,M4,L6,N6,N8,N7,Q2,Q3,I4,I6,I5,I7,I8,N3,x3,N2,E1,E2,E3,x4,a0x,F0,x7,P9,Q0,H5,M2,M3,Option.map_some,Option.map_none,E4,x5,w9,o6,D7,D8,H8,H7,O3,O2,J0,F1,F2,I9,N9,O0,I0,o8,I1,o7,M7,E9,E8,l2,N5,O1,I3,M9,N1,N0,x2,A3,A5,A4,k7,N4,Q5,Q4,M5,I2,U4,M6,o9,E6,E7,x6,E5,l0,u2,k9,u3,k8,K6,O4,O5,z1,z6,F9,F8,D6]) rfl (hp l[i] (List.getElem_mem h1)) ?_
     cases hpi:p l[i] with
     | true=>
      simp [S3,R2]
      rw [a0e h1 hpi (fun k hk=>hne k hk (by omega))];rfl
     | false=>
      simp
      refine LoopNext.mk (i+1) ⟨by omega,fun k hk hk'=>?_⟩ (by omega) (Le.mk _ _ ?_ ?_)
      · by_cases e:k=i
        · subst e;exact hpi
        · exact hne k (by omega) hk'
      · simp [num];exact wrap_i64 (by omega) (by omega)
      · simp
   · have e:i=l.length:=by omega
     subst e
     simp [num,S3,R2]
     rw [Y1 (fun k hk=>hne k hk hk)]
theorem a7j (l:List LWire) (g:Nat) (c0_0 c0_1 c0_2 c0_3 c0_4 c0_5 c0_6 c0_7:RV) (p:LWire→Bool) (hl:l.length < 1099511627776) (hg:fnB Tryz.prog g=true)
 (hp:∀ x∈l,d8 Tryz.prog g [.val (H6 x),.box [c0_0,c0_1,c0_2,c0_3,c0_4,c0_5,c0_6,c0_7]] (.ret (.val (.bool (p x))) []) [[c0_0,c0_1,c0_2,c0_3,c0_4,c0_5,c0_6,c0_7]]) :
 d8 Tryz.prog 84 [.val (.list 7 (l.map H6)),.fn g [.box [c0_0,c0_1,c0_2,c0_3,c0_4,c0_5,c0_6,c0_7]]] (.ret (.val (.bool (l.any p))) []) [[c0_0,c0_1,c0_2,c0_3,c0_4,c0_5,c0_6,c0_7]]:=by
 refine U9 mixed ok84 rfl (fun _=>rfl) ?_
 unfold ir84
 rw [b6]
 simp [d9,i6,j9,b8,d7,j9,i6]
 refine T3 (ids:=[900]) rfl rfl (by simp) (by decide) (by simp [a2y,x9,F6,y4,F4,y5,q7,y0,F5,l7,A6,G7,G8,j6,p5,p6,l1,y6,p9,l3,F3,x8,p8,p7,D4,D5,a0u,a0v,Option.getD_some,Option.getD_none,C1,u0,o5,D1,o4,n8,D3,n9,D2,D0,C9,H2,w6,o2,C7,v8,o1,C6,B9,C8,w5,C4,n7,v7,C5,H4,H3,C0,C2,o0,C3,w7,o3,A9,l9,B8,B7,B6,G9,u9,n0,B4,u6,m8,B3,A7,B5,u7,B1,l8,u5,B2,H1,H0,A8,u4,n6,B0,v6,n5,J2,J1,K5,J3,J7,J5,J4,K4,J6,J8,J9,K2,K3,y9,y8,y7,M0,M1,z7,F7,u1,D9,x1,K7,q8,Q1,M4,L6,N6,N8,N7,Q2,Q3,I4,I6,I5,I7,I8,N3,x3,N2,E1,E2,E3,x4,a0x,F0,x7,P9,Q0,H5,M2,M3,Option.map_some,Option.map_none,E4,x5,w9,o6,D7,D8,H8,H7,O3,O2,J0,F1,F2,I9,N9,O0,I0,o8,I1,o7,M7,E9,E8,l2,N5,O1,I3,M9,N1,N0,x2,A3,A5,A4,k7,N4,Q5,Q4,M5,I2,U4,M6,o9,E6,E7,x6,E5,l0,u2,k9,u3,k8,K6,O4,O5,z1,z6,F9,F8,D6]) rfl (a98 l g c0_0 c0_1 c0_2 c0_3 c0_4 c0_5 c0_6 c0_7 p hl hg hp) ?_
 simp [num,S3,R2]
 exact a5l l p
end Go.Proofs
end
section
namespace Go.Proofs
open Go.PW Go.KP
attribute [local simp] RV.cells RV.one PV.cells PV.solid PV.one G3 i7 L8 L5 RV.ofCells elems PV.killL
variable [GH]
theorem c1m (t:Tx):d8 Tryz.prog 173 [.val (tx t)] (.ret (.val (.bool (decide (1≤t.length∧t.length≤8000)))) []) []:=by
 have q:(1≤t.length∧t.length≤8000)↔((1:Int)≤t.length∧(t.length:Int)≤8000):=by omega
 have e:decide (1≤t.length∧t.length≤8000)=decide ((1:Int)≤t.length∧(t.length:Int)≤8000):=decide_eq_decide.2 q
 rw [e]
 have h:=R4 t.length 1 8000
 refine f6 mixed ok173 rfl (fun _=>rfl) ?_
 unfold ir173
 rw [b6]
 simp [d9,i6,j9,b8,d7,tx,b9,num]
 refine b7 rfl rfl (.inl rfl) h ?_
 simp
theorem b6q (r:LReport) (b1 b2 b3 b4:Bool) (h1:d8 Tryz.prog 60 [.val (num r.id),.val (num 1),.val (num 1000000)] (.ret (.val (.bool b1)) []) []) (h2:d8 Tryz.prog 60 [.val (num r.born),.val (num 0),.val (num 1000000)] (.ret (.val (.bool b2)) []) [])
 (h3:d8 Tryz.prog 60 [.val (num r.tries),.val (num 0),.val (num 3)] (.ret (.val (.bool b3)) []) []) (h4:d8 Tryz.prog 173 [.val (tx r.body)] (.ret (.val (.bool b4)) []) []) :
 d8 Tryz.prog 172 [.val (j4 r)] (.ret (.val (.bool (b1 && b2 && b3 && b4))) []) []:=by
 refine f6 mixed ok172 rfl (fun _=>rfl) ?_
 unfold ir172
 rw [b6]
 simp [d9,i6,j9,b8,d7,j4,tx,num]
 refine b7 rfl rfl (.inl rfl) h1 ?_
 cases b1 with
 | false=>simp
 | true=>
  simp [num]
  refine b7 rfl rfl (.inl rfl) h2 ?_
  cases b2 with
  | false=>simp
  | true=>
   simp [num]
   refine b7 rfl rfl (.inl rfl) h3 ?_
   cases b3 with
   | false=>simp
   | true=>
    simp [num]
    refine b7 rfl rfl (.inl rfl) h4 ?_
    cases b4<;>simp
theorem c4j (r:LReport):d8 Tryz.prog 172 [.val (j4 r)] (.ret (.val (.bool (Z5 r))) []) []:=
 b6q r _ _ _ _ (R4 r.id 1 1000000) (R4 r.born 0 1000000) (R4 r.tries 0 3) (c1m r.body)
theorem c4f (n:Int):d8 Tryz.prog 136 [.val (num n)] (.ret (.val (.bool (decide (100≤n∧n≤599)))) []) []:=by
 refine f6 mixed ok136 rfl (fun _=>rfl) ?_
 unfold ir136
 rw [b6]
 have h:=R4 n 100 599
 simp [d9,i6,j9,b8,d7,num]
 refine b7 rfl rfl (.inl rfl) h ?_
 simp
theorem c7x (q:LQueue) (hb:a2m 1048576 q):d8 Tryz.prog 130 [.val (K8 q)] (.ret (.val (.bool (T0 q))) []) []:=by
 refine f6 mixed ok130 rfl (fun _=>rfl) ?_
 unfold ir130
 rw [b6]
 by_cases h5:q.items.length≤5
 rotate_left
 · have h5':(5:Int) < q.items.length:=by omega
   have:T0 q=false:=by unfold T0;rw [decide_eq_false h5];rfl
   simp [d9,i6,j9,b8,d7,K8,h5',this]
 have h5':¬ (5:Int) < q.items.length:=by omega
 by_cases h6:q.recent.length≤6
 rotate_left
 · have h6':(6:Int) < q.recent.length:=by omega
   have:T0 q=false:=by unfold T0;rw [decide_eq_false h6];simp
   simp [d9,i6,j9,b8,d7,K8,h5',h6',this]
 have h6':¬ (6:Int) < q.recent.length:=by omega
 have hfin:a0o q.items.length (a5h q.items)=true→a0o q.recent.length (a9k q.recent)=true→T0 q=true:=fun a b=>by
  unfold T0;rw [decide_eq_true h5,decide_eq_true h6,a,b];rfl
 simp [d9,i6,j9,b8,d7,K8,h5',h6']
 refine j8 (X:=Nat) (fun i=>⟨t6 [(1,.ptr 1 0),(18,.val (.list 4 (q.items.map j4))),(19,.val (num q.items.length)),(20,.val (num i))],t8 [(1,.box [.val (.list 4 (q.items.map j4)),.val (.list 1 (q.recent.map tx))])]⟩) (fun i=>i≤q.items.length∧a0o i (a5h q.items)=true) (fun i=>q.items.length - i) 0 (Le.mk _ _ ?_ ?_) ?_ ?_
 · simp [upd,num]
 · simp
 · simp [a09]
 · rintro i ⟨hi,hall⟩
   simp [num]
   refine f8 (fun h1=>?_) (fun h1=>?_)
   · have G6:=b06 (q:=q) h1
     have hsu:=a0w (a5h q.items) i
     rw [hall,Bool.true_and] at hsu
     obtain ⟨r,hr⟩:∃ r,q.items[i]=r:=⟨_,rfl⟩
     have hR:=c4j r
     have wi:IntKind.i64.wrap ((i:Int)+1)=((i+1:Nat):Int):=by rw [wrap_i64 (by omega) (by omega)];omega
     by_cases h0:i=0
     · subst h0
       rw [b4j h1,hr] at G6 hsu
       simp [num,h1,hr,j4,tx,PV.kill,MObj.kill]
       refine z8 rfl rfl (.inl rfl) hR ?_
       cases hk:Z5 r with
       | false=>simp [G6 hk]
       | true=>
        simp [num]
        refine LoopNext.mk 1 ⟨by omega,by rw [hsu,hk]⟩ (by omega) (Le.mk _ _ ?_ ?_)
        · simp [num,upd,PV.kill];decide
        · simp [tx,PV.kill,MObj.kill]
     · obtain ⟨j,hij⟩:∃ j,i=j+1:=⟨i - 1,by omega⟩
       have hj:j < q.items.length:=by omega
       obtain ⟨s,hs⟩:∃ s,q.items[j]=s:=⟨_,rfl⟩
       have hra:a5h q.items i=(Z5 r && (decide (s.id < r.id) && decide (s.born≤r.born))):=by
        subst hij;rw [b4k h1,hr,hs]
       rw [hra] at G6 hsu
       have wj:IntKind.i64.wrap ((i:Int) - 1)=(j:Int):=by rw [wrap_i64 (by omega) (by omega)];omega
       have hp:0 < i:=by omega
       simp [num,h1,hr,j4,tx,PV.kill,MObj.kill]
       refine z8 rfl rfl (.inl rfl) hR ?_
       cases hk:Z5 r with
       | false=>simp [G6 (by rw [hk];rfl)]
       | true=>
        rw [hk,Bool.true_and] at G6 hsu
        by_cases hA:s.id < r.id
        · have hA':¬ r.id≤s.id:=by omega
          by_cases hB:s.born≤r.born
          · have hB':¬ r.born < s.born:=by omega
            simp [num,h1,hr,hs,hj,hp,wj,j4,tx,PV.kill,MObj.kill,hA',hB']
            refine LoopNext.mk (i+1) ⟨by omega,by rw [hsu,decide_eq_true hA,decide_eq_true hB];rfl⟩ (by omega) (Le.mk _ _ ?_ ?_)
            · simp [num,wi,PV.kill]
            · simp [tx,PV.kill,MObj.kill]
          · have hB':r.born < s.born:=by omega
            simp [num,h1,hr,hs,hj,hp,wj,j4,tx,PV.kill,MObj.kill,hA',hB',G6 (by rw [decide_eq_false hB,Bool.and_false])]
        · have hA':r.id≤s.id:=by omega
          simp [num,h1,hr,hs,hj,hp,wj,j4,tx,PV.kill,MObj.kill,hA',G6 (by rw [decide_eq_false hA,Bool.false_and])]
   · have e:i=q.items.length:=by omega
     subst e
     simp [num]
     refine j8 (X:=Nat) (fun i=>⟨t6 [(1,.ptr 1 0),(58,.val (.list 1 (q.recent.map tx))),(59,.val (num q.recent.length)),(60,.val (num i))],t8 [(1,.box [.val (.list 4 (q.items.map j4)),.val (.list 1 (q.recent.map tx))])]⟩) (fun i=>i≤q.recent.length∧a0o i (a9k q.recent)=true) (fun i=>q.recent.length - i) 0 (Le.mk _ _ ?_ ?_) ?_ ?_
     · simp [upd,num]
     · simp
     · simp [a09]
     · rintro i ⟨hi2,hall2⟩
       simp [num]
       refine f8 (fun h1=>?_) (fun h1=>?_)
       · have G6:=b07 (q:=q) h1
         have hsu:=a0w (a9k q.recent) i
         rw [hall2,Bool.true_and] at hsu
         rw [c0j h1] at G6 hsu
         obtain ⟨r,hr⟩:∃ r,q.recent[i]=r:=⟨_,rfl⟩
         rw [hr] at G6 hsu
         have hR:=c1m r
         have hH:=a45 (q.recent.take i) r (by simp;omega)
         have wi:IntKind.i64.wrap ((i:Int)+1)=((i+1:Nat):Int):=by rw [wrap_i64 (by omega) (by omega)];omega
         have hile:i≤q.recent.length:=by omega
         simp [num,h1,hr,tx,b9]
         refine b7 rfl rfl (.inl rfl) hR ?_
         cases hk:decide (1≤r.length∧r.length≤8000) with
         | false=>simp [G6 (by rw [hk];rfl)]
         | true=>
          rw [hk,Bool.true_and] at G6 hsu
          simp [num,h1,hr,tx,hile,← List.map_take]
          refine b7 rfl rfl (.inl rfl) hH ?_
          by_cases hm:r∈q.recent.take i
          · simp [hm,G6 (by rw [decide_eq_false (fun h=>h hm)])]
          · simp [hm]
            refine LoopNext.mk (i+1) ⟨by omega,by rw [hsu,decide_eq_true hm]⟩ (by omega) (Le.mk _ _ ?_ ?_)
            · simp [num,wi]
            · simp [tx]
       · have e:i=q.recent.length:=by omega
         subst e
         simp [hfin hall hall2]
def b1q (p:LPipe):List RV:=[.list 6 (p.channels.map j7),tx p.policy.reportTo,.list 1 (p.policy.uris.map tx),.list 2 (p.policy.rules.map l5),num p.now,num p.next,.list 3 (p.log.map A1),.list 7 (p.wires.map H6)]
theorem c7v (r:LReport) (p:LPipe):d8 Tryz.prog 132 [.val (j4 r),.box (b1q p)] (.ret (.val (.bool (!(decide (r.id < p.next) && decide (r.born≤p.now))))) []) [b1q p]:=by
 unfold b1q
 refine U9 mixed ok132 rfl (fun _=>rfl) ?_
 unfold ir132
 rw [b6]
 by_cases hA:r.id < p.next
 · have hA':¬ p.next≤r.id:=by omega
   by_cases hB:r.born≤p.now
   · have hB':¬ p.now < r.born:=by omega
     simp [d9,i6,j9,b8,d7,j4,tx,num,hA,hA',hB,hB',S3,R2]
   · have hB':p.now < r.born:=by omega
     simp [d9,i6,j9,b8,d7,j4,tx,num,hA,hA',hB,hB',S3,R2]
 · have hA':p.next≤r.id:=by omega
   simp [d9,i6,j9,b8,d7,j4,tx,num,hA,hA',S3,R2]
end Go.Proofs
end
section
namespace Go.Proofs
open Go.PW Go.KP
attribute [local simp] RV.cells RV.one PV.cells PV.solid PV.one G3 i7 L8 L5 RV.ofCells elems PV.killL
variable [GH]
theorem b5e (a b:List LTarget) (ha:a.length < 1099511627776) (hb:b.length < 1099511627776):d8 Tryz.prog 128 [.val (.list 3 (a.map f9)),.val (.list 3 (b.map f9))] (.ret (.val (.bool (decide (a=b)))) []) []:=by
 refine f6 mixed ok128 rfl (fun _=>rfl) ?_
 unfold ir128
 rw [b6]
 by_cases hlen:a.length=b.length
 rotate_left
 · have h1:¬ (a.length:Int)=b.length:=by omega
   have h2:a≠b:=fun e=>hlen (by rw [e])
   simp [d9,i6,j9,b8,d7,h1,h2]
 simp [d9,i6,j9,b8,d7,num,hlen]
 refine j8 (X:=Nat) (fun i=>⟨t6 [(0,.val (.list 3 (a.map f9))),(1,.val (.list 3 (b.map f9))),(12,.val (num b.length)),(13,.val (num i))],t8 []⟩) (fun i=>i≤b.length∧a.take i=b.take i) (fun i=>b.length - i) 0 (Le.mk _ _ ?_ ?_) ?_ ?_
 · simp [upd,num]
 · simp
 · simp
 · rintro i ⟨hi,heq⟩
   simp [num]
   refine f8 (fun h1b=>?_) (fun h1=>?_)
   · have h1:i < a.length:=by omega
     obtain ⟨x,hx⟩:∃ x,a[i]=x:=⟨_,rfl⟩
     obtain ⟨y,hy⟩:∃ y,b[i]=y:=⟨_,rfl⟩
     have hne:x≠y→a≠b:=fun h e=>h (by subst e;rw [← hx,← hy])
     have wi:IntKind.i64.wrap ((i:Int)+1)=((i+1:Nat):Int):=by rw [wrap_i64 (by omega) (by omega)];omega
     by_cases hu:x.url=y.url
     · by_cases hp:x.prio=y.prio
       · by_cases hw:x.weight=y.weight
         · have hxy:x=y:=by
            cases x;cases y
            simp only at hu hp hw
            subst hu;subst hp;subst hw;rfl
           simp [num,h1,h1b,hx,hy,f9,tx,P0,a4l,a3q,L2,hu,hp,hw]
           refine LoopNext.mk (i+1) ⟨by omega,?_⟩ (by omega) (Le.mk _ _ ?_ ?_)
           · rw [List.take_add_one,List.take_add_one,List.getElem?_eq_getElem h1,List.getElem?_eq_getElem h1b,heq,hx,hy,hxy]
           · simp [num,wi]
           · simp
         · simp [num,h1,h1b,hx,hy,f9,tx,P0,a4l,a3q,L2,hu,hp,hw,hne (fun e=>hw (by rw [e]))]
       · simp [num,h1,h1b,hx,hy,f9,tx,P0,a4l,a3q,L2,hu,hp,hne (fun e=>hp (by rw [e]))]
     · simp [num,h1,h1b,hx,hy,f9,tx,P0,a4l,a3q,L2,hu,hne (fun e=>hu (by rw [e]))]
   · have e:i=b.length:=by omega
     subst e
     rw [← hlen,List.take_length,hlen,List.take_length] at heq
     simp [heq]
theorem c4h (c:LChannel) (name:Tx):d8 Tryz.prog 134 [.val (j7 c),.box [tx name]] (.ret (.val (.bool (decide (c.group.name=name)))) []) [[tx name]]:=by
 refine U9 mixed ok134 rfl (fun _=>rfl) ?_
 unfold ir134
 rw [b6]
 simp [d9,i6,j9,b8,d7,j7,tx,num,L2,S3,R2]
theorem c7u (p:LPipe) (name:Tx) (hl:p.channels.length < 1099511627776):d8 Tryz.prog 83 [.val (G1 p),.val (tx name)] (.ret (.val (num (a06 p.channels fun c=>decide (c.group.name=name)))) []) []:=by
 have h:=a7i p.channels 134 (tx name) (fun c=>decide (c.group.name=name)) hl (by kernel_rfl) (fun c _=>c4h c name)
 refine f6 mixed ok83 rfl (fun _=>rfl) ?_
 unfold ir83
 rw [b6]
 simp [d9,i6,j9,b8,d7,G1,tx,num]
 refine T3 (ids:=[3]) rfl rfl (by simp) (by decide) (by simp [a2y,x9,F6,y4,F4,y5,q7,y0,F5,l7,A6,G7,G8,j6,p5,p6,l1,y6,p9,l3,F3,x8,p8,p7,D4,D5,a0u,a0v,Option.getD_some,Option.getD_none,C1,u0,o5,D1,o4,n8,D3,n9,D2,D0,C9,H2,w6,o2,C7,v8,o1,C6,B9,C8,w5,C4,n7,v7,C5,H4,H3,C0,C2,o0,C3,w7,o3,A9,l9,B8,B7,B6,G9,u9,n0,B4,u6,m8,B3,A7,B5,u7,B1,l8,u5,B2,H1,H0,A8,u4,n6,B0,v6,n5,J2,J1,K5,J3,J7,J5,J4,K4,J6,J8,J9,K2,K3,y9,y8,y7,M0,M1,z7,F7,u1,D9,x1,K7,q8,Q1,M4,L6,N6,N8,N7,Q2,Q3,I4,I6,I5,I7,I8,N3,x3,N2,E1,E2,E3,x4,a0x,F0,x7,P9,Q0,H5,M2,M3,Option.map_some,Option.map_none,E4,x5,w9,o6,D7,D8,H8,H7,O3,O2,J0,F1,F2,I9,N9,O0,I0,o8,I1,o7,M7,E9,E8,l2,N5,O1,I3,M9,N1,N0,x2,A3,A5,A4,k7,N4,Q5,Q4,M5,I2,U4,M6,o9,E6,E7,x6,E5,l0,u2,k9,u3,k8,K6,O4,O5,z1,z6,F9,F8,D6,tx]) rfl h ?_
 simp
theorem c1n (p:LPipe) (c:LChannel) (hb:Q9 1048576 c):d8 Tryz.prog 82 [.val (G1 p),.val (j7 c)] (.ret (.val (.bool (S0 p.next p.now c))) []) []:=by
 have hG:=c70 c.group hb.1
 have hpl:c.peers.length≤1048576:=hb.2.1.1
 have htl:c.group.targets.length≤1048576:=hb.1.2.1
 have hql:c.queue.items.length≤1048576:=hb.2.2.1.1
 have hP:=c7z c.peers (by omega) (fun x hx=>by have:=hb.2.1.2 x hx;unfold a1b U5 at this;omega)
 have hT:=b25 c.peers (by omega)
 have hE:=b5e (tgs c.peers) c.group.targets (by simp [tgs];omega) (by omega)
 have hQ:=c7x c.queue hb.2.2
 have hC:=a6j c.queue.items 132 (.list 6 (p.channels.map j7)) (tx p.policy.reportTo) (.list 1 (p.policy.uris.map tx)) (.list 2 (p.policy.rules.map l5)) (num p.now) (num p.next) (.list 3 (p.log.map A1)) (.list 7 (p.wires.map H6)) (fun r=>!(decide (r.id < p.next) && decide (r.born≤p.now))) (by omega) (by kernel_rfl) (fun r _=>c7v r p)
 have hch:S0 p.next p.now c=(a3b c.group && a0d c.peers && decide (tgs c.peers=c.group.targets) && T0 c.queue && !(c.queue.items.any fun r=>!(decide (r.id < p.next) && decide (r.born≤p.now)))):=by
  unfold S0 tgs
  rw [List.not_any_eq_all_not]
  simp only [Bool.not_not]
 rw [hch]
 refine f6 mixed ok82 rfl (fun _=>rfl) ?_
 unfold ir82
 rw [b6]
 simp [d9,i6,j9,b8,d7,G1,j7,tx,num]
 refine z8 rfl rfl (.inl rfl) hG ?_
 cases a3b c.group with
 | false=>simp
 | true=>
 simp [num]
 refine z8 rfl rfl (.inl rfl) hP ?_
 cases a0d c.peers with
 | false=>simp
 | true=>
 simp [num]
 refine z8 rfl rfl (.inl rfl) hT ?_
 simp [num]
 refine z8 rfl rfl (.inl rfl) hE ?_
 cases decide (tgs c.peers=c.group.targets) with
 | false=>simp
 | true=>
 simp [num]
 refine z8 rfl rfl (.inl rfl) hQ ?_
 cases T0 c.queue with
 | false=>simp
 | true=>
 simp [num]
 refine T3 (ids:=[2]) rfl rfl (by simp) (by decide) (by simp [a2y,x9,F6,y4,F4,y5,q7,y0,F5,l7,A6,G7,G8,j6,p5,p6,l1,y6,p9,l3,F3,x8,p8,p7,D4,D5,a0u,a0v,Option.getD_some,Option.getD_none,C1,u0,o5,D1,o4,n8,D3,n9,D2,D0,C9,H2,w6,o2,C7,v8,o1,C6,B9,C8,w5,C4,n7,v7,C5,H4,H3,C0,C2,o0,C3,w7,o3,A9,l9,B8,B7,B6,G9,u9,n0,B4,u6,m8,B3,A7,B5,u7,B1,l8,u5,B2,H1,H0,A8,u4,n6,B0,v6,n5,J2,J1,K5,J3,J7,J5,J4,K4,J6,J8,J9,K2,K3,y9,y8,y7,M0,M1,z7,F7,u1,D9,x1,K7,q8,Q1,M4,L6,N6,N8,N7,Q2,Q3,I4,I6,I5,I7,I8,N3,x3,N2,E1,E2,E3,x4,a0x,F0,x7,P9,Q0,H5,M2,M3,Option.map_some,Option.map_none,E4,x5,w9,o6,D7,D8,H8,H7,O3,O2,J0,F1,F2,I9,N9,O0,I0,o8,I1,o7,M7,E9,E8,l2,N5,O1,I3,M9,N1,N0,x2,A3,A5,A4,k7,N4,Q5,Q4,M5,I2,U4,M6,o9,E6,E7,x6,E5,l0,u2,k9,u3,k8,K6,O4,O5,z1,z6,F9,F8,D6,tx,num]) rfl hC ?_
 simp
theorem b91 (p:LPipe) (w:LWire) (b1 b2 b3 b5:Bool) (hn:1≤p.next∧p.next≤1000000) (hil:w.ids.length≤1048576) (h1:d8 Tryz.prog 60 [.val (num w.at_),.val (num 0),.val (num p.now)] (.ret (.val (.bool b1)) []) [])
 (h2:d8 Tryz.prog 136 [.val (num w.status)] (.ret (.val (.bool b2)) []) []) (h3:d8 Tryz.prog 137 [.val (tx w.group)] (.ret (.val (.bool b3)) []) [])
 (h5:d8 Tryz.prog 60 [.val (num w.ids.length),.val (num 1),.val (num 3)] (.ret (.val (.bool b5)) []) []) :
 d8 Tryz.prog 86 [.val (G1 p),.val (H6 w)] (.ret (.val (.bool (b1 && b2 && b3 && decide (w.url.length≤100) && b5 && decide (w.body.length≤65536) && a0o w.ids.length (a74 p.next w.ids)))) []) []:=by
 refine f6 mixed ok86 rfl (fun _=>rfl) ?_
 unfold ir86
 rw [b6]
 simp [d9,i6,j9,b8,d7,G1,H6,tx,num]
 refine b7 rfl rfl (.inl rfl) h1 ?_
 cases b1 with
 | false=>simp
 | true=>
 simp [num]
 refine b7 rfl rfl (.inl rfl) h2 ?_
 cases b2 with
 | false=>simp
 | true=>
 simp [num]
 refine b7 rfl rfl (.inl rfl) h3 ?_
 cases b3 with
 | false=>simp
 | true=>
 by_cases hu:w.url.length≤100
 rotate_left
 · have hu':(100:Int) < w.url.length:=by omega
   simp [num,b9,hu',hu]
 have hu':¬ (100:Int) < w.url.length:=by omega
 simp [num,b9,hu',hu]
 refine b7 rfl rfl (.inl rfl) h5 ?_
 cases b5 with
 | false=>simp
 | true=>
 by_cases hy:w.body.length≤65536
 rotate_left
 · have hy':(65536:Int) < w.body.length:=by omega
   simp [num,b9,hy',hy]
 have hy':¬ (65536:Int) < w.body.length:=by omega
 simp [num,b9,hy',hy]
 have wn:IntKind.i64.wrap (p.next - 1)=p.next - 1:=wrap_i64 (by omega) (by omega)
 refine j8 (X:=Nat) (fun i=>⟨t6 [(2,.ptr 2 0),(3,.ptr 3 0),(45,.val (.list 1 (w.ids.map num))),(46,.val (num w.ids.length)),(47,.val (num i))],t8 [(2,T1 p),(3,b6k w)]⟩) (fun i=>i≤w.ids.length∧a0o i (a74 p.next w.ids)=true) (fun i=>w.ids.length - i) 0 (Le.mk _ _ ?_ ?_) ?_ ?_
 · simp [upd,num,PV.kill]
 · simp [T1,b6k,tx,num,MObj.kill,PV.kill]
 · simp [a09]
 · rintro i ⟨hi,hall⟩
   simp [num,b6k]
   refine f8 (fun hlt=>?_) (fun hlt=>?_)
   · have G6:a74 p.next w.ids i=false→a0o w.ids.length (a74 p.next w.ids)=false:=a4h hlt
     have hsu:=a0w (a74 p.next w.ids) i
     rw [hall,Bool.true_and] at hsu
     obtain ⟨r,hr⟩:∃ r,w.ids[i]=r:=⟨_,rfl⟩
     have hR:=R4 r 1 (p.next - 1)
     have wi:IntKind.i64.wrap ((i:Int)+1)=((i+1:Nat):Int):=by rw [wrap_i64 (by omega) (by omega)];omega
     by_cases h0:i=0
     · subst h0
       rw [b7m hlt,hr] at G6 hsu
       simp [num,hlt,hr,tx,T1,wn]
       refine b7 rfl rfl (.inl rfl) hR ?_
       cases hk:decide (1≤r∧r≤p.next - 1) with
       | false=>simp [G6 hk]
       | true=>
        simp [num]
        refine LoopNext.mk 1 ⟨by omega,by rw [hsu,hk]⟩ (by omega) (Le.mk _ _ ?_ ?_)
        · simp [num,upd];decide
        · simp [tx,T1,b6k,num]
     · obtain ⟨j,hij⟩:∃ j,i=j+1:=⟨i - 1,by omega⟩
       have hj:j < w.ids.length:=by omega
       obtain ⟨s,hs⟩:∃ s,w.ids[j]=s:=⟨_,rfl⟩
       have hra:a74 p.next w.ids i=(decide (1≤r∧r≤p.next - 1) && decide (s < r)):=by
        subst hij;rw [b7n hlt,hr,hs]
       rw [hra] at G6 hsu
       have wj:IntKind.i64.wrap ((i:Int) - 1)=(j:Int):=by rw [wrap_i64 (by omega) (by omega)];omega
       have hp:0 < i:=by omega
       simp [num,hlt,hr,tx,T1,wn]
       refine b7 rfl rfl (.inl rfl) hR ?_
       cases hk:decide (1≤r∧r≤p.next - 1) with
       | false=>simp [G6 (by rw [hk];rfl)]
       | true=>
        rw [hk,Bool.true_and] at G6 hsu
        by_cases hA:s < r
        · have hA':¬ r≤s:=by omega
          simp [num,hlt,hr,hs,hj,hp,wj,tx,hA']
          refine LoopNext.mk (i+1) ⟨by omega,by rw [hsu,decide_eq_true hA]⟩ (by omega) (Le.mk _ _ ?_ ?_)
          · simp [num,wi]
          · simp [tx,T1,b6k,num]
        · have hA':r≤s:=by omega
          simp [num,hlt,hr,hs,hj,hp,wj,tx,hA',G6 (decide_eq_false hA)]
   · have e:i=w.ids.length:=by omega
     subst e
     simp [hall,hu,hy]
theorem d0t (p:LPipe) (w:LWire) (hn:1≤p.next∧p.next≤1000000) (hb:Z2 1048576 w):d8 Tryz.prog 86 [.val (G1 p),.val (H6 w)] (.ret (.val (.bool (X4 p.next p.now w))) []) []:=by
 have hgl:w.group.length≤1048576:=hb.1
 have hil:w.ids.length≤1048576:=hb.2.2.1
 have q:(1≤w.ids.length∧w.ids.length≤3)↔((1:Int)≤w.ids.length∧(w.ids.length:Int)≤3):=by omega
 unfold X4
 rw [decide_eq_decide.2 q]
 exact b91 p w _ _ _ _ hn hil (R4 w.at_ 0 p.now) (c4f w.status) (b5d w.group (by omega)) (R4 w.ids.length 1 3)
end Go.Proofs
end
section
namespace Go.Proofs
open Go.PW Go.KP
attribute [local simp] RV.cells RV.one PV.cells PV.solid PV.one G3 i7 L8 L5 RV.ofCells elems PV.killL
variable [GH]
theorem c7y (w:LWire) (p:LPipe) (hn:1≤p.next∧p.next≤1000000) (hb:Z2 1048576 w):d8 Tryz.prog 85 [.val (H6 w),.box (b1q p)] (.ret (.val (.bool (!X4 p.next p.now w))) []) [b1q p]:=by
 have hW:=d0t p w hn hb
 unfold b1q
 refine U9 mixed ok85 rfl (fun _=>rfl) ?_
 unfold ir85
 rw [b6]
 simp [d9,i6,j9,b8,d7,H6,tx,num]
 refine b7 rfl rfl (.inl rfl) hW ?_
 simp [num,tx,S3,R2]
theorem d01 (p:LPipe) (hb:Z3 1048576 p):d8 Tryz.prog 41 [.val (G1 p)] (.ret (.val (.bool (O7 p))) []) []:=by
 have hcl:p.channels.length≤1048576:=hb.1.1
 have hP:=c4k p.policy hb.2.1
 have hN:=i_isNow p.now
 have hX:=R4 p.next 1 1000000
 refine f6 mixed ok41 rfl (fun _=>rfl) ?_
 unfold ir41
 rw [b6]
 by_cases h5:p.channels.length≤5
 rotate_left
 · have h5':(5:Int) < p.channels.length:=by omega
   have hf:O7 p=false:=by unfold O7;rw [decide_eq_false h5];rfl
   simp [d9,i6,j9,b8,d7,G1,tx,num,h5',hf]
 have h5':¬ (5:Int) < p.channels.length:=by omega
 simp [d9,i6,j9,b8,d7,G1,tx,num,h5']
 refine b7 rfl rfl (.inl rfl) hP ?_
 cases hpol:Y0 p.policy with
 | false=>
  have hf:O7 p=false:=by unfold O7;rw [hpol];simp
  simp [hf]
 | true=>
 simp [num]
 refine b7 rfl rfl (.inl rfl) hN ?_
 cases hnow:decide (0≤p.now∧p.now≤1000000) with
 | false=>
  have hf:O7 p=false:=by unfold O7;rw [hnow];simp
  simp [hf]
 | true=>
 simp [num]
 refine b7 rfl rfl (.inl rfl) hX ?_
 cases hnext:decide (1≤p.next∧p.next≤1000000) with
 | false=>
  have hf:O7 p=false:=by unfold O7;rw [hnext];simp
  simp [hf]
 | true=>
 by_cases hll:p.log.length≤4096
 rotate_left
 · have hll':(4096:Int) < p.log.length:=by omega
   have hf:O7 p=false:=by unfold O7;rw [decide_eq_false hll];simp
   simp [num,hll',hf]
 have hll':¬ (4096:Int) < p.log.length:=by omega
 by_cases hwl:p.wires.length≤4096
 rotate_left
 · have hwl':(4096:Int) < p.wires.length:=by omega
   have hf:O7 p=false:=by unfold O7;rw [decide_eq_false hwl];simp
   simp [num,hll',hwl',hf]
 have hwl':¬ (4096:Int) < p.wires.length:=by omega
 have hpk:O7 p=(a0o p.channels.length (a3g p) && a0o p.log.length (a4e p.next p.now p.log) && p.wires.all (X4 p.next p.now)):=by
  unfold O7;rw [decide_eq_true h5,hpol,hnow,hnext,decide_eq_true hll,decide_eq_true hwl];simp
 have hn2:1≤p.next∧p.next≤1000000:=of_decide_eq_true hnext
 have wn:IntKind.i64.wrap (p.next - 1)=p.next - 1:=wrap_i64 (by omega) (by omega)
 have hpk2:O7 p=(a0o p.channels.length (a3g p) && a0o p.log.length (a4e p.next p.now p.log) && !(p.wires.any fun w=>!X4 p.next p.now w)):=by
  rw [hpk,List.not_any_eq_all_not]
  simp only [Bool.not_not]
 have hC:=a7j p.wires 85 (.list 6 (p.channels.map j7)) (tx p.policy.reportTo) (.list 1 (p.policy.uris.map tx)) (.list 2 (p.policy.rules.map l5)) (num p.now) (num p.next) (.list 3 (p.log.map A1)) (.list 7 (p.wires.map H6)) (fun w=>!X4 p.next p.now w) (by omega) (by kernel_rfl) (fun w hw=>c7y w p hn2 (hb.2.2.2.2 w hw))
 rw [hpk2]
 simp [num,hll',hwl']
 refine j8 (X:=Nat) (fun i=>⟨t6 [(1,.ptr 1 0),(43,.val (.list 6 (p.channels.map j7))),(44,.val (num p.channels.length)),(45,.val (num i))],t8 [(1,T1 p)]⟩) (fun i=>i≤p.channels.length∧a0o i (a3g p)=true) (fun i=>p.channels.length - i) 0 (Le.mk _ _ ?_ ?_) ?_ ?_
 · simp [upd,num,PV.kill]
 · simp [T1,tx,num,MObj.kill,PV.kill]
 · simp [a09]
 · rintro i ⟨hi,hall⟩
   simp [num,T1]
   refine f8 (fun hlt=>?_) (fun hlt=>?_)
   · have G6:a3g p i=false→(a0o p.channels.length (a3g p) && a0o p.log.length (a4e p.next p.now p.log) && !(p.wires.any fun w=>!X4 p.next p.now w))=false:=fun h=>by rw [a4h hlt h];rfl
     have hsu:=a0w (a3g p) i
     rw [hall,Bool.true_and] at hsu
     rw [b7u hlt] at G6 hsu
     have hnm:=c2i p i hlt
     obtain ⟨c,hc⟩:∃ c,p.channels[i]=c:=⟨_,rfl⟩
     have hbc:Q9 1048576 c:=by rw [← hc];exact hb.1.2 _ (List.getElem_mem hlt)
     rw [hc] at G6 hsu hnm
     have hA:=c7u p c.group.name (by omega)
     have hCh:=c1n p c hbc
     have wi:IntKind.i64.wrap ((i:Int)+1)=((i+1:Nat):Int):=by rw [wrap_i64 (by omega) (by omega)];omega
     simp [num,hlt,hc,j7,tx,PV.kill,MObj.kill]
     refine b7 rfl rfl (.inl rfl) hCh ?_
     cases hk:S0 p.next p.now c with
     | false=>simp [G6 (by rw [hk,Bool.and_false])]
     | true=>
      rw [hk,Bool.and_true] at G6 hsu
      simp [num,tx,PV.kill,MObj.kill]
      refine b7 rfl rfl (.inl rfl) hA ?_
      by_cases hu:c.group.name∈(p.channels.map fun c=>c.group.name).take i
      · have hne:¬ (a06 p.channels fun x=>decide (x.group.name=c.group.name))=(i:Int):=fun h=>hnm.1 h hu
        simp [num,hne,G6 (decide_eq_false (fun h=>h hu))]
      · have heq:=hnm.2 hu
        simp [num,heq]
        refine LoopNext.mk (i+1) ⟨by omega,by rw [hsu,decide_eq_true hu]⟩ (by omega) (Le.mk _ _ ?_ ?_)
        · simp [num,wi,PV.kill]
        · simp [tx,T1,num,PV.kill,MObj.kill]
   · have e:i=p.channels.length:=by omega
     subst e
     rw [hall,Bool.true_and]
     simp [num]
     refine j8 (X:=Nat) (fun i=>⟨t6 [(1,.ptr 1 0),(5,.val (num (a9t p.log i))),(65,.val (.list 3 (p.log.map A1))),(66,.val (num p.log.length)),(67,.val (num i))],t8 [(1,T1 p)]⟩) (fun i=>i≤p.log.length∧a0o i (a4e p.next p.now p.log)=true) (fun i=>p.log.length - i) 0 (Le.mk _ _ ?_ ?_) ?_ ?_
     · simp [upd,num,PV.kill,a9t]
     · simp [T1,tx,num,MObj.kill,PV.kill]
     · simp [a09]
     · rintro i ⟨hi2,hall2⟩
       simp [num,T1]
       refine f8 (fun hlt=>?_) (fun hlt=>?_)
       · have G6:a4e p.next p.now p.log i=false→(a0o p.log.length (a4e p.next p.now p.log) && !(p.wires.any fun w=>!X4 p.next p.now w))=false:=fun h=>by rw [a4h hlt h];rfl
         have hsu:=a0w (a4e p.next p.now p.log) i
         rw [hall2,Bool.true_and] at hsu
         rw [b5t hlt] at G6 hsu
         have hls:=b0f hlt
         obtain ⟨x,hx⟩:∃ x,p.log[i]=x:=⟨_,rfl⟩
         rw [hx] at G6 hsu hls
         have hK:=R4 x.kind 1 7
         have hI:=R4 x.id 1 (p.next - 1)
         have hT:=R4 x.at_ (a9t p.log i) p.now
         have wi:IntKind.i64.wrap ((i:Int)+1)=((i+1:Nat):Int):=by rw [wrap_i64 (by omega) (by omega)];omega
         simp [num,hlt,hx,A1,tx,PV.kill,MObj.kill]
         refine b7 rfl rfl (.inl rfl) hK ?_
         cases hk:decide (1≤x.kind∧x.kind≤7) with
         | false=>simp [G6 (by rw [hk];rfl)]
         | true=>
         rw [hk,Bool.true_and] at G6 hsu
         simp [num,wn,PV.kill]
         refine b7 rfl rfl (.inl rfl) hI ?_
         cases hid:decide (1≤x.id∧x.id≤p.next - 1) with
         | false=>simp [G6 (by rw [hid];rfl)]
         | true=>
         rw [hid,Bool.true_and] at G6 hsu
         simp [num,wn,PV.kill]
         refine b7 rfl rfl (.inl rfl) hT ?_
         cases hat:decide (a9t p.log i≤x.at_∧x.at_≤p.now) with
         | false=>simp [G6 hat]
         | true=>
          simp [num,PV.kill]
          refine LoopNext.mk (i+1) ⟨by omega,by rw [hsu,hat]⟩ (by omega) (Le.mk _ _ ?_ ?_)
          · simp [num,wi,PV.kill,hls]
          · simp [tx,T1,num,PV.kill,MObj.kill]
       · have e:i=p.log.length:=by omega
         subst e
         rw [hall2,Bool.true_and]
         simp [num]
         refine T3 (ids:=[1]) rfl rfl (by simp) (by decide) (by simp [a2y,x9,F6,y4,F4,y5,q7,y0,F5,l7,A6,G7,G8,j6,p5,p6,l1,y6,p9,l3,F3,x8,p8,p7,D4,D5,a0u,a0v,Option.getD_some,Option.getD_none,C1,u0,o5,D1,o4,n8,D3,n9,D2,D0,C9,H2,w6,o2,C7,v8,o1,C6,B9,C8,w5,C4,n7,v7,C5,H4,H3,C0,C2,o0,C3,w7,o3,A9,l9,B8,B7,B6,G9,u9,n0,B4,u6,m8,B3,A7,B5,u7,B1,l8,u5,B2,H1,H0,A8,u4,n6,B0,v6,n5,J2,J1,K5,J3,J7,J5,J4,K4,J6,J8,J9,K2,K3,y9,y8,y7,M0,M1,z7,F7,u1,D9,x1,K7,q8,Q1,M4,L6,N6,N8,N7,Q2,Q3,I4,I6,I5,I7,I8,N3,x3,N2,E1,E2,E3,x4,a0x,F0,x7,P9,Q0,H5,M2,M3,Option.map_some,Option.map_none,E4,x5,w9,o6,D7,D8,H8,H7,O3,O2,J0,F1,F2,I9,N9,O0,I0,o8,I1,o7,M7,E9,E8,l2,N5,O1,I3,M9,N1,N0,x2,A3,A5,A4,k7,N4,Q5,Q4,M5,I2,U4,M6,o9,E6,E7,x6,E5,l0,u2,k9,u3,k8,K6,O4,O5,z1,z6,F9,F8,D6,tx,num]) rfl hC ?_
         simp
end Go.Proofs
end
