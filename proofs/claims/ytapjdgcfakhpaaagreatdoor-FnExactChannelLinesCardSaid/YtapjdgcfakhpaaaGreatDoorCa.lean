/- Ca: merged out of KSa, KSb, KSc, KSd, KSe, KSr. -/
import Derived.Test.YtapjdgcfakhpaaaGreatDoorBa
import Derived.Test.YtapjdgcfakhpaaaGreatDoorAc
set_option linter.unusedSectionVars false
set_option linter.unusedSimpArgs false
set_option linter.unusedVariables false
set_option maxRecDepth 100000
section
namespace Go.Proofs
open Go.PW Go.KP
attribute [local simp] RV.cells RV.one PV.cells PV.solid PV.one G6 i7 M3 L4 RV.ofCells elems PV.killL
theorem mixed:Tryz.prog.follows .mixedOrders=true:=by kernel_rfl
variable [GF]
theorem U4 (k:IntKind) (a lo hi:Int):d8 Tryz.prog 108 [.val (.int k a),.val (.int k lo),.val (.int k hi)] (.ret (.val (.bool (decide (lo≤a∧a≤hi)))) []) []:=by
 refine f8 mixed ok108 rfl (fun _=>rfl) ?_
 unfold ir108
 rw [b6]
 by_cases h:lo≤a
 · simp [d9,i6,j9,b9,d7,h]
 · simp [d9,i6,j9,b9,d7,h]
theorem a2c (t:Tx) (c:UInt8) (ht:t.length < 1099511627776):d8 Tryz.prog 265 [.val (tx t),.val (rvb c)] (.ret (.val (num (N3 t c))) []) []:=by
 refine f8 mixed ok265 rfl (fun _=>rfl) ?_
 unfold ir265
 rw [b6]
 simp only [y8,G1,z1,F9,z6,s8,y9,G0,l9,B1,H1,H2,j7,p8,p9,l1,z7,q9,l3,F8,y7,q8,q7,D9,E1,a05,a06,Option.getD_some,Option.getD_none,C6,u6,o8,D6,o7,o0,D8,o2,D7,D5,D4,H6,x3,o5,D2,x1,o4,D1,C4,D3,x2,C9,n9,w9,D0,H8,H7,C5,C7,o3,C8,x4,o6,B4,n0,C3,C2,C1,H3,w7,n6,B9,w5,n5,B8,B2,C0,w6,B6,m8,v8,B7,H5,H4,B3,v7,n8,B5,w8,n7,J6,J5,K9,J7,K3,J9,J8,K8,K2,K4,K5,K6,K7,A1,A0,z8,M5,M6,A4,G2,u7,E5,x7,L3,t6,Q6,M9,M0,O1,O3,O2,Q7,Q8,I8,J0,I9,J1,J2,N8,x9,N7,E6,E7,E8,y0,a09,F5,y6,Q4,Q5,H9,M7,M8,Option.map_some,Option.map_none,E9,y4,x6,o9,E3,E4,I2,I1,O8,O7,J4,F6,F7,J3,O4,O5,I4,p6,I5,p5,N2,F4,F3,l2,O0,O6,I7,N4,N6,N5,x8,A8,B0,A9,k7,N9,R0,Q9,N0,I6,U8,N1,p7,F1,F2,y5,F0,l0,u9,k9,v6,k8,L2,O9,P0,A2,A3,G4,G3,E2,d9,i6,j9,b9,d7,tx,rvb,num]
 refine j8 (X:=Nat) (fun i=>⟨u0 [(0,.val (.str (bs t))),(1,.val (.int .u8 c.toNat)),(5,.val (.int .i64 i))],u5 []⟩) (fun i=>i≤t.length∧∀ k,k < i→t.getD k 0≠c) (fun i=>t.length - i) 0 (Le.mk _ _ ?_ ?_) ?_ ?_
 · simp [upd]
 · simp
 · simp
 · rintro i ⟨hi,hne⟩
   simp [b8,j5,u8_eq]
   refine f7 (fun h1=>?_) (fun h1=>?_)
   · simp [b8,j5,u8_eq,h1]
     refine f7 (fun h2=>?_) (fun h2=>?_)
     · simp
       rw [c1l t c i hi hne (.inr (by rw [a42 _ _ _ h1];exact h2))];rfl
     · simp
       refine LoopNext.mk (i+1) ⟨by omega,fun k hk=>?_⟩ (by omega) (Le.mk _ _ ?_ ?_)
       · by_cases e:k=i
         · subst e;simpa [List.getElem?_eq_getElem h1] using h2
         · simpa using hne k (by omega)
       · simp [A4,u7];rw [wrap_i64 (by omega) (by omega)]
       · simp
   · have e:i=t.length:=by omega
     simp [b8]
     rw [c1l t c i hi hne (.inl e),e];rfl
theorem a8z (t:Tx):d8 Tryz.prog 256 [.val (tx t)] (.ret (.val (.bool (a0x t))) []) []:=by
 refine f8 mixed ok256 rfl (fun _=>rfl) ?_
 unfold ir256
 rw [b6]
 have e1:(⟨#[104,116,116,112]⟩:ByteArray)=bs a7o:=rfl
 have e2:(⟨#[104,116,116,112,115]⟩:ByteArray)=bs a99:=rfl
 by_cases h:t=a7o
 · simp [d9,i6,j9,b9,d7,tx,e1,e2,L7,a0x,h]
 · by_cases h':t=a99
   · subst h'
     simp [d9,i6,j9,b9,d7,tx,e1,e2,L7,a0x,show ¬ a99=a7o by decide]
   · simp [d9,i6,j9,b9,d7,tx,e1,e2,L7,a0x,h,h']
theorem b6n (t:Tx):d8 Tryz.prog 269 [.val (tx t)] (.ret (.val (num (a02 t))) []) []:=by
 refine f8 mixed ok269 rfl (fun _=>rfl) ?_
 unfold ir269
 rw [b6]
 have e1:(⟨#[104,116,116,112]⟩:ByteArray)=bs a7o:=rfl
 by_cases h:t=a7o
 · simp [d9,i6,j9,b9,d7,tx,e1,L7,a02,h,num]
 · simp [d9,i6,j9,b9,d7,tx,e1,L7,a02,h,num]
theorem a5p (c:UInt8):d8 Tryz.prog 235 [.val (rvb c)] (.ret (.val (.bool (P7 c))) []) []:=by
 refine f8 mixed ok235 rfl (fun _=>rfl) ?_
 unfold ir235
 rw [b6]
 have e1:((48:Int)≤c.toNat)↔48≤c.toNat:=by omega
 have e2:((c.toNat:Int)≤57)↔c.toNat≤57:=by omega
 by_cases h:48≤c.toNat
 · simp [d9,i6,j9,b9,d7,rvb,P7,h,e1,e2]
 · simp [d9,i6,j9,b9,d7,rvb,P7,h,e1,e2]
theorem c4a {c:UInt8} (h1:65≤c.toNat) (h2:c.toNat≤90):(c.toNat:Int)+32=((c+32).toNat:Int):=by
 rw [UInt8.toNat_add]
 simp
 omega
theorem b6p (t:Tx) (ht:t.length < 1099511627776):d8 Tryz.prog 266 [.val (tx t)] (.ret (.val (tx (R8 t))) []) []:=by
 refine f8 mixed ok266 rfl (fun _=>rfl) ?_
 unfold ir266
 rw [b6]
 simp only [y8,G1,z1,F9,z6,s8,y9,G0,l9,B1,H1,H2,j7,p8,p9,l1,z7,q9,l3,F8,y7,q8,q7,D9,E1,a05,a06,Option.getD_some,Option.getD_none,C6,u6,o8,D6,o7,o0,D8,o2,D7,D5,D4,H6,x3,o5,D2,x1,o4,D1,C4,D3,x2,C9,n9,w9,D0,H8,H7,C5,C7,o3,C8,x4,o6,B4,n0,C3,C2,C1,H3,w7,n6,B9,w5,n5,B8,B2,C0,w6,B6,m8,v8,B7,H5,H4,B3,v7,n8,B5,w8,n7,J6,J5,K9,J7,K3,J9,J8,K8,K2,K4,K5,K6,K7,A1,A0,z8,M5,M6,A4,G2,u7,E5,x7,L3,t6,Q6,M9,M0,O1,O3,O2,Q7,Q8,I8,J0,I9,J1,J2,N8,x9,N7,E6,E7,E8,y0,a09,F5,y6,Q4,Q5,H9,M7,M8,Option.map_some,Option.map_none,E9,y4,x6,o9,E3,E4,I2,I1,O8,O7,J4,F6,F7,J3,O4,O5,I4,p6,I5,p5,N2,F4,F3,l2,O0,O6,I7,N4,N6,N5,x8,A8,B0,A9,k7,N9,R0,Q9,N0,I6,U8,N1,p7,F1,F2,y5,F0,l0,u9,k9,v6,k8,L2,O9,P0,A2,A3,G4,G3,E2,d9,i6,j9,b9,d7,tx,elems]
 refine j8 (X:=Nat) (fun i=>⟨u0 [(0,.val (.str (bs t))),(3,.own 6),(4,.val (.int .i64 i))],u5 [(6,.row 5 1 ((R8 (t.take i)).map rvb))]⟩) (fun i=>i≤t.length) (fun i=>t.length - i) 0 (Le.mk _ _ ?_ ?_) ?_ ?_
 · simp [upd,PV.kill]
 · simp [upd,R8]
 · simp
 · rintro i hi
   simp [b8,j5,elems]
   refine f7 (fun h1=>?_) (fun h1=>?_)
   · have hnext:∀ st':St,st'.env 0=.val (.str (bs t))→st'.env 3=.own 6→st'.env 4=.val (.int .i64 ((i:Int)+1))→st'.mem 6=.row 5 1 ((R8 (t.take i)).map rvb++[rvb (c1h (t.getD i 0))]) →
      ∃ x',x'≤t.length∧t.length - x' < t.length - i∧Le st' ⟨u0 [(0,.val (.str (bs t))),(3,.own 6),(4,.val (.int .i64 (x':Int)))],u5 [(6,.row 5 1 ((R8 (t.take x')).map rvb))]⟩:=fun st' q1 q2 q3 q4=>by
      refine ⟨i+1,by omega,by omega,Le.mk _ _ ?_ ?_⟩
      · simp [q1,q2,q3]
      · simp only [List.mem_singleton,forall_eq,q4]
        rw [b7y t i 0 h1]
        simp [R8]
     have hlen:(R8 (t.take i)).length=i:=by simp [R8];omega
     have e1:((65:Int)≤(t[i].toNat:Int))↔65≤t[i].toNat:=by omega
     have e2:((t[i].toNat:Int)≤90)↔t[i].toNat≤90:=by omega
     by_cases h2:65≤t[i].toNat
     · by_cases h3:t[i].toNat≤90
       · simp [b8,j5,h1,e1,e2,h2,h3,hlen]
         refine ⟨by omega,by omega,hnext _ ?_ ?_ ?_ ?_⟩
         · simp [A4]
         · simp [A4]
         · simp [A4];exact wrap_i64 (by omega) (by omega)
         · rw [a42 _ _ _ h1]
           simp [A4,rvb,c1h,h2,h3]
           rw [c4a h2 h3]
           have:=(t[i]+32).toNat_lt
           rw [b38 (by omega) (by omega)]
           omega
       · simp [b8,j5,h1,e1,e2,h2,h3,hlen]
         refine ⟨by omega,by omega,hnext _ ?_ ?_ ?_ ?_⟩
         · simp [A4]
         · simp [A4]
         · simp [A4];exact wrap_i64 (by omega) (by omega)
         · rw [a42 _ _ _ h1]
           simp [A4,rvb,c1h,h2,h3]
     · simp [b8,j5,h1,e1,e2,h2,hlen]
       refine ⟨by omega,by omega,hnext _ ?_ ?_ ?_ ?_⟩
       · simp [A4]
       · simp [A4]
       · simp [A4];exact wrap_i64 (by omega) (by omega)
       · rw [a42 _ _ _ h1]
         simp [A4,rvb,c1h,h2]
   · have e:i=t.length:=by omega
     subst e
     have e1:(R8 t).map rvb=(R8 (t.take t.length)).map rvb:=by simp
     simp [b8]
     exact ⟨fun x _=>rfl,by rw [c24];rfl⟩
theorem a9l (t wo:Tx) (ht:t.length < 1099511627776) (hw:wo.length < 1099511627776):d8 Tryz.prog 313 [.val (tx t),.val (tx wo)] (.ret (.val (.bool (Y3 t wo))) []) []:=by
 refine f8 mixed ok313 rfl (fun _=>rfl) ?_
 unfold ir313
 rw [b6]
 simp only [y8,G1,z1,F9,z6,s8,y9,G0,l9,B1,H1,H2,j7,p8,p9,l1,z7,q9,l3,F8,y7,q8,q7,D9,E1,a05,a06,Option.getD_some,Option.getD_none,C6,u6,o8,D6,o7,o0,D8,o2,D7,D5,D4,H6,x3,o5,D2,x1,o4,D1,C4,D3,x2,C9,n9,w9,D0,H8,H7,C5,C7,o3,C8,x4,o6,B4,n0,C3,C2,C1,H3,w7,n6,B9,w5,n5,B8,B2,C0,w6,B6,m8,v8,B7,H5,H4,B3,v7,n8,B5,w8,n7,J6,J5,K9,J7,K3,J9,J8,K8,K2,K4,K5,K6,K7,A1,A0,z8,M5,M6,A4,G2,u7,E5,x7,L3,t6,Q6,M9,M0,O1,O3,O2,Q7,Q8,I8,J0,I9,J1,J2,N8,x9,N7,E6,E7,E8,y0,a09,F5,y6,Q4,Q5,H9,M7,M8,Option.map_some,Option.map_none,E9,y4,x6,o9,E3,E4,I2,I1,O8,O7,J4,F6,F7,J3,O4,O5,I4,p6,I5,p5,N2,F4,F3,l2,O0,O6,I7,N4,N6,N5,x8,A8,B0,A9,k7,N9,R0,Q9,N0,I6,U8,N1,p7,F1,F2,y5,F0,l0,u9,k9,v6,k8,L2,O9,P0,A2,A3,G4,G3,E2,d9,i6,j9,b9,d7,tx]
 refine j8 (X:=Nat) (fun i=>⟨u0 [(0,.val (.str (bs t))),(1,.val (.str (bs wo))),(5,.val (.int .i64 i))],u5 []⟩) (fun i=>i≤t.length∧Y3 (t.take i) wo=true) (fun i=>t.length - i) 0 (Le.mk _ _ ?_ ?_) ?_ ?_
 · simp [upd]
 · simp
 · simp [Y3]
 · rintro i ⟨hi,hall⟩
   simp [b8,j5]
   refine f7 (fun h1=>?_) (fun h1=>?_)
   · have hstep:Y3 (t.take (i+1)) wo=(decide (33≤t[i].toNat∧t[i].toNat≤126) && !decide (t[i]∈wo)):=by
      unfold Y3 at hall ⊢
      rw [S4 t _ i h1,hall,Bool.true_and]
     have H0:(decide (33≤t[i].toNat∧t[i].toNat≤126) && !decide (t[i]∈wo))=false→Y3 t wo=false:=fun hb=>by
      unfold Y3
      rw [List.all_eq_false]
      exact ⟨t[i],List.getElem_mem h1,by simpa using hb⟩
     have e1:((t[i].toNat:Int) < 33)↔t[i].toNat < 33:=by omega
     have e2:((126:Int) < (t[i].toNat:Int))↔126 < t[i].toNat:=by omega
     by_cases h2:33≤t[i].toNat
     · have h2':¬ t[i].toNat < 33:=by omega
       by_cases h3:126 < t[i].toNat
       · simp [b8,j5,h1,e1,e2,h2,h2',h3]
         exact H0 (by simp;omega)
       · simp [b8,j5,h1,e1,e2,h2,h2',h3]
         refine b7 rfl rfl (.inl rfl) (a2c wo t[i] hw) ?_
         by_cases h4:t[i]∈wo
         · simp [num,b8,W8,h4]
           exact H0 (by simp [h4])
         · simp [num,b8,W8,h4]
           refine LoopNext.mk (i+1) ⟨by omega,by rw [hstep];simp [h4];omega⟩ (by omega) (Le.mk _ _ ?_ ?_)
           · simp [A4];exact wrap_i64 (by omega) (by omega)
           · simp
     · have h2':t[i].toNat < 33:=by omega
       simp [b8,j5,h1,e1,e2,h2,h2']
       exact H0 (by simp;omega)
   · have e:i=t.length:=by omega
     subst e
     simp [b8]
     simpa using hall.symm
theorem c2v (t:Tx) (ht:t.length < 1099511627776):d8 Tryz.prog 312 [.val (tx t)] (.ret (.val (.bool (W3 t))) []) []:=by
 refine f8 mixed ok312 rfl (fun _=>rfl) ?_
 unfold ir312
 rw [b6]
 simp [d9,i6,j9,b9,d7,tx,b8]
 refine b7 rfl rfl (.inl rfl) (U4 .i64 t.length 1 12) ?_
 by_cases hlen:1≤t.length∧t.length≤12
 rotate_left
 · rw [show decide ((1:Int)≤t.length∧(t.length:Int)≤12)=false from decide_eq_false (by omega)]
   simp
   simp [W3,hlen]
 rw [show decide ((1:Int)≤t.length∧(t.length:Int)≤12)=true from decide_eq_true (by omega)]
 simp
 refine j8 (X:=Nat) (fun i=>⟨u0 [(0,.val (.str (bs t))),(3,.val (.int .i64 i))],u5 []⟩) (fun i=>i≤t.length∧a4w (t.take i)=true) (fun i=>t.length - i) 0 (Le.mk _ _ ?_ ?_) ?_ ?_
 · simp [upd]
 · simp
 · simp [a4w]
 · rintro i ⟨hi,hall⟩
   simp [b8,j5]
   refine f7 (fun h1=>?_) (fun h1=>?_)
   · have hstep:=b27 t i h1
     rw [hall,Bool.true_and] at hstep
     have H0:=b03 t i h1
     have hls:W3 t=a4w t:=by simp [W3,hlen]
     have e1:((97:Int)≤(t[i].toNat:Int))↔97≤t[i].toNat:=by omega
     have e2:((t[i].toNat:Int)≤122)↔t[i].toNat≤122:=by omega
     have hgood:(if i=0 then P9 t[i] else X0 t[i])=true→∀ st':St,st'.env 0=.val (.str (bs t))→st'.env 3=.val (.int .i64 (IntKind.i64.wrap ((i:Int)+1))) →
      ∃ x',(x'≤t.length∧a4w (t.take x')=true)∧t.length - x' < t.length - i∧Le st' ⟨u0 [(0,.val (.str (bs t))),(3,.val (.int .i64 (x':Int)))],u5 []⟩:=fun hg st' q1 q2=>by
      refine ⟨i+1,⟨by omega,by rw [hstep,hg]⟩,by omega,Le.mk _ _ ?_ ?_⟩
      · simp [q1,q2];exact wrap_i64 (by omega) (by omega)
      · simp
     by_cases hs:97≤t[i].toNat∧t[i].toNat≤122
     · simp [b8,j5,h1,e1,e2,hs.1,hs.2]
       refine hgood ?_ _ ?_ ?_
       · simp [P9,X0,hs]
       · simp
       · simp
     · by_cases h2:97≤t[i].toNat
       · have h3:¬ t[i].toNat≤122:=fun h=>hs ⟨h2,h⟩
         have hlow:P9 t[i]=false:=by simp [P9];omega
         by_cases h0:i=0
         · simp [b8,j5,h1,e1,e2,h2,h3,(eq_true h0:(i=0)=True)]
           exact hls.trans (H0 (by rw [if_pos h0];exact hlow))
         · simp [b8,j5,h1,e1,e2,h2,h3,h0]
           refine b7 rfl rfl (.inl rfl) (a5p t[i]) ?_
           cases hd:P7 t[i] with
           | true=>
            simp [h0]
            refine hgood ?_ _ ?_ ?_
            · simp [h0,X0,hd]
            · simp
            · simp
           | false=>
            have e3:((t[i].toNat:Int)=45)↔t[i].toNat=45:=by omega
            have e4:((t[i].toNat:Int)=43)↔t[i].toNat=43:=by omega
            have e5:((t[i].toNat:Int)=46)↔t[i].toNat=46:=by omega
            by_cases h4:t[i].toNat=45
            · simp [b8,j5,h1,h0,e3,e4,e5,h4]
              refine hgood ?_ _ ?_ ?_
              · simp [h0,X0,h4]
              · simp
              · simp
            · by_cases h5:t[i].toNat=43
              · simp [b8,j5,h1,h0,e3,e4,e5,h4,h5]
                refine hgood ?_ _ ?_ ?_
                · simp [h0,X0,h5]
                · simp
                · simp
              · by_cases h6:t[i].toNat=46
                · simp [b8,j5,h1,h0,e3,e4,e5,h4,h5,h6]
                  refine hgood ?_ _ ?_ ?_
                  · simp [h0,X0,h6]
                  · simp
                  · simp
                · simp [b8,j5,h1,h0,e3,e4,e5,h4,h5,h6]
                  exact hls.trans (H0 (by rw [if_neg h0];simp [X0,hlow,hd,h4,h5,h6]))
       · skip
         have hlow:P9 t[i]=false:=by simp [P9];omega
         by_cases h0:i=0
         · simp [b8,j5,h1,e1,e2,h2,(eq_true h0:(i=0)=True)]
           exact hls.trans (H0 (by rw [if_pos h0];exact hlow))
         · simp [b8,j5,h1,e1,e2,h2,h0]
           refine b7 rfl rfl (.inl rfl) (a5p t[i]) ?_
           cases hd:P7 t[i] with
           | true=>
            simp [h0]
            refine hgood ?_ _ ?_ ?_
            · simp [h0,X0,hd]
            · simp
            · simp
           | false=>
            have e3:((t[i].toNat:Int)=45)↔t[i].toNat=45:=by omega
            have e4:((t[i].toNat:Int)=43)↔t[i].toNat=43:=by omega
            have e5:((t[i].toNat:Int)=46)↔t[i].toNat=46:=by omega
            by_cases h4:t[i].toNat=45
            · simp [b8,j5,h1,h0,e3,e4,e5,h4]
              refine hgood ?_ _ ?_ ?_
              · simp [h0,X0,h4]
              · simp
              · simp
            · by_cases h5:t[i].toNat=43
              · simp [b8,j5,h1,h0,e3,e4,e5,h4,h5]
                refine hgood ?_ _ ?_ ?_
                · simp [h0,X0,h5]
                · simp
                · simp
              · by_cases h6:t[i].toNat=46
                · simp [b8,j5,h1,h0,e3,e4,e5,h4,h5,h6]
                  refine hgood ?_ _ ?_ ?_
                  · simp [h0,X0,h6]
                  · simp
                  · simp
                · simp [b8,j5,h1,h0,e3,e4,e5,h4,h5,h6]
                  exact hls.trans (H0 (by rw [if_neg h0];simp [X0,hlow,hd,h4,h5,h6]))
   · have e:i=t.length:=by omega
     subst e
     simp [b8]
     simp [W3,hlen]
     simpa using hall.symm
theorem b5t (last:Bool) (t:Tx) (i:Nat) (h:i < t.length):U7 last (t.drop i)=if !(P9 t[i] || P7 t[i]) && (last || !decide (t[i].toNat=45∨t[i].toNat=46)) then false else U7 (!(P9 t[i] || P7 t[i])) (t.drop (i+1)):=by
 rw [List.drop_eq_getElem_cons h];rfl
theorem c87 (t:Tx) (ht:t.length < 1099511627776):d8 Tryz.prog 314 [.val (tx t)] (.ret (.val (.bool (a2i t))) []) []:=by
 refine f8 mixed ok314 rfl (fun _=>rfl) ?_
 unfold ir314
 rw [b6]
 simp [d9,i6,j9,b9,d7,tx]
 refine j8 (X:=Nat×Bool) (fun x=>⟨u0 [(0,.val (.str (bs t))),(3,.val (.bool x.2)),(4,.val (.int .i64 x.1))],u5 []⟩) (fun x=>x.1≤t.length∧a2i t=U7 x.2 (t.drop x.1)) (fun x=>t.length - x.1) (0,true) (Le.mk _ _ ?_ ?_) ?_ ?_
 · simp [upd]
 · simp
 · simp [a2i]
 · rintro ⟨i,last⟩ ⟨hi,hinv⟩
   simp only at hi hinv
   simp [b8,j5]
   refine f7 (fun h1=>?_) (fun h1=>?_)
   · rw [b5t last t i h1] at hinv
     have e1:((97:Int)≤(t[i].toNat:Int))↔97≤t[i].toNat:=by omega
     have e2:((t[i].toNat:Int)≤122)↔t[i].toNat≤122:=by omega
     have e3:((t[i].toNat:Int)=45)↔t[i].toNat=45:=by omega
     have e5:((t[i].toNat:Int)=46)↔t[i].toNat=46:=by omega
     have hgood:∀ (l:Bool),a2i t=U7 l (t.drop (i+1))→∀ st':St,st'.env 0=.val (.str (bs t))→st'.env 3=.val (.bool l)→st'.env 4=.val (.int .i64 (IntKind.i64.wrap ((i:Int)+1))) →
      ∃ x':Nat×Bool,(x'.1≤t.length∧a2i t=U7 x'.2 (t.drop x'.1))∧t.length - x'.1 < t.length - i∧Le st' ⟨u0 [(0,.val (.str (bs t))),(3,.val (.bool x'.2)),(4,.val (.int .i64 (x'.1:Int)))],u5 []⟩:=fun l hl st' q1 q2 q3=>by
      refine ⟨(i+1,l),⟨by simp only;omega,hl⟩,by simp only;omega,Le.mk _ _ ?_ ?_⟩
      · simp [q1,q2,q3];exact wrap_i64 (by omega) (by omega)
      · simp
     by_cases hs:97≤t[i].toNat∧t[i].toNat≤122
     · have hlow:P9 t[i]=true:=by simp [P9,hs]
       simp [b8,j5,h1,e1,e2,hs.1,hs.2]
       refine hgood false (by rw [hinv];simp [hlow]) _ ?_ ?_ ?_<;>simp
     · have hlow:P9 t[i]=false:=by simp [P9];omega
       by_cases h2:97≤t[i].toNat
       · have h3:¬ t[i].toNat≤122:=fun h=>hs ⟨h2,h⟩
         simp [b8,j5,h1,e1,e2,h2,h3]
         refine b7 rfl rfl (.inl rfl) (a5p t[i]) ?_
         cases hd:P7 t[i] with
         | true=>
          simp
          refine hgood false (by rw [hinv];simp [hlow,hd]) _ ?_ ?_ ?_<;>simp
         | false=>
          cases last with
          | true=>
           simp
           rw [hinv];simp [hlow,hd]
          | false=>
           by_cases h4:t[i].toNat=45
           · simp [b8,j5,h1,e3,e5,h4]
             refine hgood true (by rw [hinv];simp [hlow,hd,h4]) _ ?_ ?_ ?_<;>simp
           · by_cases h6:t[i].toNat=46
             · simp [b8,j5,h1,e3,e5,h4,h6]
               refine hgood true (by rw [hinv];simp [hlow,hd,h6]) _ ?_ ?_ ?_<;>simp
             · simp [b8,j5,h1,e3,e5,h4,h6]
               rw [hinv];simp [hlow,hd,h4,h6]
       · skip
         simp [b8,j5,h1,e1,e2,h2]
         refine b7 rfl rfl (.inl rfl) (a5p t[i]) ?_
         cases hd:P7 t[i] with
         | true=>
          simp
          refine hgood false (by rw [hinv];simp [hlow,hd]) _ ?_ ?_ ?_<;>simp
         | false=>
          cases last with
          | true=>
           simp
           rw [hinv];simp [hlow,hd]
          | false=>
           by_cases h4:t[i].toNat=45
           · simp [b8,j5,h1,e3,e5,h4]
             refine hgood true (by rw [hinv];simp [hlow,hd,h4]) _ ?_ ?_ ?_<;>simp
           · by_cases h6:t[i].toNat=46
             · simp [b8,j5,h1,e3,e5,h4,h6]
               refine hgood true (by rw [hinv];simp [hlow,hd,h6]) _ ?_ ?_ ?_<;>simp
             · simp [b8,j5,h1,e3,e5,h4,h6]
               rw [hinv];simp [hlow,hd,h4,h6]
   · have e:i=t.length:=by omega
     subst e
     simp [b8]
     rw [hinv];simp [U7]
end Go.Proofs
end
section
namespace Go.Proofs
open Go.PW Go.KP
attribute [local simp] RV.cells RV.one PV.cells PV.solid PV.one G6 i7 M3 L4 RV.ofCells elems PV.killL
variable [GF]
theorem d1u (m:Nat):Z7 [RV.int .u8 (48+(m:Int))]=bs [UInt8.ofNat (48+m)]:=by
 have:(48+(m:Int)).toNat=48+m:=by omega
 simp only [Z7,bs,List.map,RV.byte,this]
theorem a7s (n:Nat):n≤9223372036854775807→d8 Tryz.prog 137 [.val (num n)] (.ret (.val (tx (a23 n))) []) []:=by
 induction n using Nat.strongRecOn with
 | ind n ih=>
  intro hn
  refine f8 mixed ok137 rfl (fun _=>rfl) ?_
  unfold ir137
  rw [b6]
  have g1:¬ ((n:Int)=-9223372036854775808):=by omega
  have g2:¬ ((n:Int) < 0):=by omega
  by_cases h:n < 10
  · have g3:(n:Int) < 10:=by omega
    have g4:IntKind.i64.wrap (48+(n:Int))=48+(n:Int):=wrap_i64 (by omega) (by omega)
    have g5:IntKind.u8.wrap (48+(n:Int))=48+(n:Int):=b38 (by omega) (by omega)
    simp [d9,i6,j9,b9,d7,num,g1,g2,g3,g4,g5,RV.isU8]
    rw [a2b h]
    rw [d1u];rfl
  · have g3:¬ ((n:Int) < 10):=by omega
    have g6:(n:Int).tdiv 10=((n / 10:Nat):Int):=by rw [Int.tdiv_eq_ediv_of_nonneg (by omega)];omega
    have g7:(n:Int).tmod 10=((n % 10:Nat):Int):=by rw [Int.tmod_eq_emod_of_nonneg (by omega)];omega
    have hih:=ih (n / 10) (by omega) (by omega)
    rw [a41 h]
    have hl:=d0j (n / 10)
    have ha:n / 10≤922337203685477580:=by omega
    generalize n / 10=a at *
    have hb:n % 10 < 10:=Nat.mod_lt _ (by omega)
    generalize n % 10=b at *
    have g8:IntKind.i64.wrap (a:Int)=(a:Int):=wrap_i64 (by omega) (by omega)
    have g4:IntKind.i64.wrap (48+(b:Int))=48+(b:Int):=wrap_i64 (by omega) (by omega)
    have g5:IntKind.u8.wrap (48+(b:Int))=48+(b:Int):=b38 (by omega) (by omega)
    simp [d9,i6,j9,b9,d7,num,g1,g2,g3,g6,g7,g8,g4,g5,RV.isU8]
    refine l6 rfl rfl (.inl rfl) hih ?_
    simp [d9,i6,j9,b9,d7,num,g1,g2,g3,g6,g7,g8,g4,g5,RV.isU8,tx]
    rw [d1u]
    simp [b8,l4]
    omega
def b18:Option Int→PV
 | some n=>.tup [.val (num n),.val (.bool true)]
 | none=>.tup [.val (num 0),.val (.bool false)]
theorem b89 (u:Tx) (neg:Bool) (st:St) (h0:st.env 0=.val (tx u)) (h4:st.env 4=.val (num (if neg then -1 else 1))) (h5:st.env 5=.val (num 0)) (hu:u.length≤18) :
 EC Tryz.prog ir268_from5 st (K:=⟨a2m [.t 2,.t 3] (b18 (if u.all P7 then some (if neg then - (V9 u:Int) else (V9 u:Int)) else none))⟩):=by
 unfold ir268_from5
 simp only [y8,G1,z1,F9,z6,s8,y9,G0,l9,B1,H1,H2,j7,p8,p9,l1,z7,q9,l3,F8,y7,q8,q7,D9,E1,a05,a06,Option.getD_some,Option.getD_none,C6,u6,o8,D6,o7,o0,D8,o2,D7,D5,D4,H6,x3,o5,D2,x1,o4,D1,C4,D3,x2,C9,n9,w9,D0,H8,H7,C5,C7,o3,C8,x4,o6,B4,n0,C3,C2,C1,H3,w7,n6,B9,w5,n5,B8,B2,C0,w6,B6,m8,v8,B7,H5,H4,B3,v7,n8,B5,w8,n7,J6,J5,K9,J7,K3,J9,J8,K8,K2,K4,K5,K6,K7,A1,A0,z8,M5,M6,A4,G2,u7,E5,x7,L3,t6,Q6,M9,M0,O1,O3,O2,Q7,Q8,I8,J0,I9,J1,J2,N8,x9,N7,E6,E7,E8,y0,a09,F5,y6,Q4,Q5,H9,M7,M8,Option.map_some,Option.map_none,E9,y4,x6,o9,E3,E4,I2,I1,O8,O7,J4,F6,F7,J3,O4,O5,I4,p6,I5,p5,N2,F4,F3,l2,O0,O6,I7,N4,N6,N5,x8,A8,B0,A9,k7,N9,R0,Q9,N0,I6,U8,N1,p7,F1,F2,y5,F0,l0,u9,k9,v6,k8,L2,O9,P0,A2,A3,G4,G3,E2]
 refine j8 (X:=Nat) (fun i=>⟨u0 [(0,.val (tx u)),(4,.val (num (if neg then -1 else 1))),(5,.val (num (V9 (u.take i)))),(6,.val (num i))],u5 []⟩) (fun i=>i≤u.length∧(u.take i).all P7=true) (fun i=>u.length - i) 0 (Le.mk _ _ ?_ ?_) ?_ ?_
 · simp [upd,h0,h4,h5,num,V9]
 · simp
 · simp
 · rintro i ⟨hi,hall⟩
   have hlv:V9 (u.take i) < 1000000000000000000:=by
    have h1:=b4c _ hall
    have h2:(u.take i).length≤18:=by simp;omega
    exact Nat.lt_of_lt_of_le h1 (Nat.le_trans (Nat.pow_le_pow_right (by omega) h2) (by decide))
   simp [tx,num,b8,j5]
   refine f7 (fun h1=>?_) (fun h1=>?_)
   · have e1:((u[i].toNat:Int) < 48)↔u[i].toNat < 48:=by omega
     have e1':((48:Int)≤(u[i].toNat:Int))↔48≤u[i].toNat:=by omega
     have e2:((57:Int) < (u[i].toNat:Int))↔57 < u[i].toNat:=by omega
     by_cases h2:u[i].toNat < 48
     · have h2':¬ 48≤u[i].toNat:=by omega
       simp [tx,num,b8,j5,h1,e1,e1',e2,h2,h2']
       rw [if_neg (fun hA=>by have:=hA u[i] (List.getElem_mem h1);simp [P7] at this;omega)];rfl
     · have h2':48≤u[i].toNat:=by omega
       by_cases h3:57 < u[i].toNat
       · simp [tx,num,b8,j5,h1,e1,e1',e2,h2,h2',h3]
         rw [if_neg (fun hA=>by have:=hA u[i] (List.getElem_mem h1);simp [P7] at this;omega)];rfl
       · simp [tx,num,b8,j5,h1,e1,e1',e2,h2,h2',h3]
         have hlv2:V9 (u.take i) < 100000000000000000:=by
          have h1':=b4c _ hall
          have h2':(u.take i).length≤17:=by simp;omega
          exact Nat.lt_of_lt_of_le h1' (Nat.le_trans (Nat.pow_le_pow_right (by omega) h2') (by decide))
         have hw:IntKind.i64.wrap (IntKind.i64.wrap (IntKind.i64.wrap ((V9 (u.take i):Int)*10)+IntKind.i64.wrap (u[i].toNat:Int)) - 48)=((V9 (u.take (i+1)):Nat):Int):=by
          rw [b7y u i 0 h1,a9i,a42 _ _ _ h1]
          rw [wrap_i64 (x:=(V9 (u.take i):Int)*10) (by omega) (by omega),wrap_i64 (x:=(u[i].toNat:Int)) (by omega) (by omega),wrap_i64 (x:=(V9 (u.take i):Int)*10+(u[i].toNat:Int)) (by omega) (by omega),wrap_i64 (by omega) (by omega)]
          omega
         refine LoopNext.mk (i+1) ⟨by omega,?_⟩ (by omega) (Le.mk _ _ ?_ ?_)
         · rw [S4 _ _ _ h1,hall];simp [P7];omega
         · simp [hw,tx,num];exact wrap_i64 (by omega) (by omega)
         · simp
   · have e:i=u.length:=by omega
     subst e
     rw [List.take_length] at hall hlv
     simp [tx,num,b8]
     have hA:∀ x,x∈u→P7 x=true:=by simpa using hall
     have w1:IntKind.i64.wrap (-(V9 u:Int))=-(V9 u:Int):=wrap_i64 (by omega) (by omega)
     have w2:IntKind.i64.wrap (V9 u:Int)=(V9 u:Int):=wrap_i64 (by omega) (by omega)
     cases neg with
     | true=>simp [b18,num,eq_true hA,w1]
     | false=>simp [b18,num,eq_true hA,w2]
theorem a64 (u:Tx) (neg:Bool) (st:St) (h0:st.env 0=.val (tx u)) (h4:st.env 4=.val (num (if neg then -1 else 1))) (hu:u.length < 1099511627776) :
 EC Tryz.prog ir268_from3 st (K:=⟨a2m [.t 2,.t 3] (b18 (a2h neg u))⟩):=by
 unfold ir268_from3
 by_cases a1:u.length=0
 · have:u=[]:=List.eq_nil_of_length_eq_zero a1
   subst this
   simp [h0,tx,b8]
   rw [show a2h neg []=none by simp [a2h,a32]];rfl
 · have a1':¬ ((u.length:Int)=0):=by omega
   by_cases a2:18 < u.length
   · have a2':(18:Int) < u.length:=by omega
     have a2'':¬ (u.length:Int)≤18:=by omega
     simp [h0,tx,b8,a1,a1',a2',a2'']
     rw [show a2h neg u=none by simp [a2h,a32,a2]];rfl
   · have hpos:0 < u.length:=by omega
     have a2':¬ (18:Int) < u.length:=by omega
     have a2'':(u.length:Int)≤18:=by omega
     have e0:u[0]?.getD 0=u.getD 0 0:=by simp
     have e1:((u[0].toNat:Int)=48)↔u[0].toNat=48:=by omega
     have e2:((1:Int) < (u.length:Int))↔1 < u.length:=by omega
     have hg:u[0]?.getD 0=u[0]:=by simp [List.getElem?_eq_getElem hpos]
     have hgo:a32 neg u=false→∀ st':St,st'.env 0=.val (tx u)→st'.env 4=.val (num (if neg then -1 else 1))→st'.env 5=.val (num 0)→EC Tryz.prog ir268_from5 st' (K:=⟨a2m [.t 2,.t 3] (b18 (a2h neg u))⟩):=fun hb st' q1 q2 q3=>by
      rw [show a2h neg u=(if u.all P7 then some (if neg then - (V9 u:Int) else (V9 u:Int)) else none) by unfold a2h;rw [hb];rfl]
      exact b89 u neg st' q1 q2 q3 (by omega)
     by_cases a3:u[0].toNat=48
     · by_cases a4:1 < u.length
       · simp [h0,tx,b8,a1,a1',a2',a2'',j5,hpos,e1,e2,a3,a4]
         rw [show a2h neg u=none by simp [a2h,a32,hg,a3,a4]];rfl
       · cases neg with
         | true=>
          simp [h0,h4,num,tx,b8,a1,a1',a2',a2'',j5,hpos,e1,e2,a3,a4]
          rw [show a2h true u=none by simp [a2h,a32,hg,a3]];rfl
         | false=>
          simp [h0,h4,num,tx,b8,a1,a1',a2',a2'',j5,hpos,e1,e2,a3,a4]
          refine hgo ?_ _ ?_ ?_ ?_
          · simp [a32,hg,a3,a4,a1,a2]
          · simp [h0,tx]
          · simp [h4,num]
          · simp [num]
     · simp [h0,tx,b8,a1,a1',a2',a2'',j5,hpos,e1,e2,a3]
       refine hgo ?_ _ ?_ ?_ ?_
       · simp [a32,hg,a3,a1,a2]
       · simp [h0,tx]
       · simp [h4,num]
       · simp [num]
theorem c2x (t:Tx) (ht:t.length < 1099511627776):d8 Tryz.prog 268 [.val (tx t)] (.ret (b18 (X3 t)) []) []:=by
 refine f8 mixed ok268 rfl (fun ι=>by cases X3 t<;>rfl) ?_
 unfold ir268
 rw [b6]
 cases t with
 | nil=>
  simp [d9,i6,j9,b9,d7,tx,b8]
  rw [show X3 []=a2h false [] by simp [X3,a2h,a32]]
  refine a64 [] false _ ?_ ?_ (by simp)<;>simp [tx,num]
 | cons c r=>
  have hr:r.length < 1099511627776:=by simp at ht;omega
  have e0:(0:Int) < ((r.length:Int)+1):=by omega
  by_cases hc:c=45
  · have e1:((c.toNat:Int)=45):=by rw [hc];rfl
    simp [d9,i6,j9,b9,d7,tx,b8,j5,e0,e1,S5]
    rw [show X3 (c :: r)=a2h true r by simp [X3,hc]]
    refine a64 r true _ ?_ ?_ hr<;>simp [tx,num]
  · have e1:¬ ((c.toNat:Int)=45):=fun h=>hc (UInt8.toNat_inj.1 (by simp;omega))
    simp [d9,i6,j9,b9,d7,tx,b8,j5,e0,e1]
    rw [show X3 (c :: r)=a2h false (c :: r) by simp [X3,hc]]
    refine a64 (c :: r) false _ ?_ ?_ ht<;>simp [tx,num]
theorem c86 (u:LUrl) (hs:u.Small):d8 Tryz.prog 264 [.val (X5 u)] (.ret (.val (tx (c6g u))) []) []:=by
 refine f8 mixed ok264 rfl (fun _=>rfl) ?_
 unfold ir264
 rw [b6]
 obtain ⟨s1,s2,s3,s4,s5,s6,s7⟩:=hs
 have e1:(⟨#[58,47,47]⟩:ByteArray)=bs [58,47,47]:=rfl
 have e2:(⟨#[58]⟩:ByteArray)=bs [58]:=rfl
 simp [d9,i6,j9,b9,d7,X5,tx,num,b8,e1,e2,l4]
 refine ⟨by omega,by omega,f7 (fun h=>?_) (fun h=>?_)⟩
 · obtain ⟨p,hp⟩:=Int.eq_ofNat_of_zero_le (show 0≤u.port by omega)
   simp [X5,tx,num,b8,e1,e2,l4]
   refine b7 rfl rfl (.inl rfl) (by rw [hp];exact a7s p (by omega)) ?_
   have hl:=a5h 18 p (by omega)
   simp [X5,tx,num,b8,e1,e2,l4]
   refine ⟨by omega,by omega,?_⟩
   simp [c6g,a2k,hp,show 0 < p by omega]
 · simp [X5,tx,num,b8,e1,e2,l4]
   simp [c6g,a2k,h]
theorem b4v (u:LUrl) (hs:u.Small) (pre:Tx) (hp:pre.length < 4398046511104) (st:St) (h1:st.env 1=.ptr 1 0) (h3:st.env 3=.val (tx pre)) (hm:st.mem 1=.box [.val (tx u.scheme),.val (tx u.user),.val (tx u.host),.val (num u.port),.val (tx u.path),.val (tx u.query),.val (tx u.frag),.val (.bool u.hasQ),.val (.bool u.hasF)]) :
 EC Tryz.prog ir257_from4 st (K:=⟨a2m [.t 2] (.val (tx (pre++(u.host++a2k u.port++u.path)++(if u.hasQ then 63 :: u.query else [])++(if u.hasF then 35 :: u.frag else []))))⟩):=by
 unfold ir257_from4
 obtain ⟨s1,s2,s3,s4,s5,s6,s7⟩:=hs
 have e3:(⟨#[]⟩:ByteArray)=bs []:=rfl
 have e5:(⟨#[63]⟩:ByteArray)=bs [63]:=rfl
 have e6:(⟨#[35]⟩:ByteArray)=bs [35]:=rfl
 simp [h1,h3,hm,tx,num,b8,e3,e5,e6,l4]
 refine l6 rfl rfl (.inl rfl) (c86 ⟨[],[],u.host,u.port,[],[],[],false,false⟩ ⟨by simp,by simp,s3,by simp,by simp,by simp,s7⟩) ?_
 simp [h1,h3,hm,tx,num,b8,e3,e5,e6,l4,S5,c6g]
 have hpl:=c3q u.port s7
 have htk:List.take (u.host.length+(a2k u.port).length) (u.host++a2k u.port)=u.host++a2k u.port:=List.take_of_length_le (by simp)
 refine ⟨by omega,by omega,?_⟩
 cases hq:u.hasQ with
 | true=>
  refine f7 (fun _=>?_) (fun h=>(h (by simp)).elim)
  simp [h1,h3,hm,tx,num,b8,e3,e5,e6,l4,htk]
  refine ⟨by omega,by omega,?_⟩
  cases hf:u.hasF with
  | true=>
   refine f7 (fun _=>?_) (fun h=>(h (by simp)).elim)
   simp [h1,h3,hm,tx,num,b8,e3,e5,e6,l4,htk]
   omega
  | false=>
   refine f7 (fun h=>by simp at h) (fun _=>?_)
   simp [h1,h3,hm,tx,num,b8,e3,e5,e6,l4,htk]
 | false=>
  refine f7 (fun h=>by simp at h) (fun _=>?_)
  simp [h1,h3,hm,tx,num,b8,e3,e5,e6,l4,htk]
  cases hf:u.hasF with
  | true=>
   refine f7 (fun _=>?_) (fun h=>(h (by simp)).elim)
   simp [h1,h3,hm,tx,num,b8,e3,e5,e6,l4,htk]
   omega
  | false=>
   refine f7 (fun h=>by simp at h) (fun _=>?_)
   simp [h1,h3,hm,tx,num,b8,e3,e5,e6,l4,htk]
theorem b2u (u:LUrl) (hs:u.Small):d8 Tryz.prog 257 [.val (X5 u)] (.ret (.val (tx (X6 u))) []) []:=by
 refine f8 mixed ok257 rfl (fun _=>rfl) ?_
 unfold ir257
 rw [b6]
 have hs':=hs
 obtain ⟨s1,s2,s3,s4,s5,s6,s7⟩:=hs
 have e1:(⟨#[58,47,47]⟩:ByteArray)=bs [58,47,47]:=rfl
 have e2:(⟨#[58]⟩:ByteArray)=bs [58]:=rfl
 have e3:(⟨#[]⟩:ByteArray)=bs []:=rfl
 have e4:(⟨#[64]⟩:ByteArray)=bs [64]:=rfl
 have e5:(⟨#[63]⟩:ByteArray)=bs [63]:=rfl
 have e6:(⟨#[35]⟩:ByteArray)=bs [35]:=rfl
 simp [d9,i6,j9,b9,d7,X5,tx,num,b8,e1,e2,l4]
 refine b7 rfl rfl (.inl rfl) (a8z u.scheme) ?_
 by_cases hw:a0x u.scheme=true
 · simp [X5,tx,num,b8,e1,e2,e3,e4,l4,L7,hw]
   refine ⟨by omega,f7 (fun hu=>?_) (fun hu=>?_)⟩
   · simp [X5,tx,num,b8,e1,e2,e3,e4,l4,L7]
     refine ⟨by omega,by omega,?_⟩
     have e:X6 u=(u.scheme++[58,47,47]++(u.user++[64]))++(u.host++a2k u.port++u.path)++(if u.hasQ then 63 :: u.query else [])++(if u.hasF then 35 :: u.frag else []):=by simp [X6,hw,hu]
     have:=b4v u hs' (u.scheme++[58,47,47]++(u.user++[64])) (by simp;omega)
     rw [← e] at this
     refine this _ ?_ ?_ ?_<;>simp [tx,num]
   · have hu:u.user=[]:=Classical.byContradiction hu
     have e:X6 u=(u.scheme++[58,47,47])++(u.host++a2k u.port++u.path)++(if u.hasQ then 63 :: u.query else [])++(if u.hasF then 35 :: u.frag else []):=by simp [X6,hw,hu]
     have:=b4v u hs' (u.scheme++[58,47,47]) (by simp;omega)
     rw [← e] at this
     simp [X5,tx,num,b8,e1,e2,e3,e4,l4,L7]
     refine this _ ?_ ?_ ?_<;>simp [tx,num]
 · simp [X5,tx,num,b8,e1,e2,l4,hw]
   refine ⟨by omega,by omega,?_⟩
   simp [X6,hw]
end Go.Proofs
end
section
namespace Go.Proofs
open Go.PW Go.KP
attribute [local simp] RV.cells RV.one PV.cells PV.solid PV.one G6 i7 M3 L4 RV.ofCells elems PV.killL
variable [GF]
theorem c0i (u:LUrl) (hs:u.Small) (hw:a0x u.scheme=true) (st:St) (h1:st.env 1=.ptr 1 0) (hm:st.mem 1=.box [.val (tx u.scheme),.val (tx u.user),.val (tx u.host),.val (num u.port),.val (tx u.path),.val (tx u.query),.val (tx u.frag),.val (.bool u.hasQ),.val (.bool u.hasF)]) :
 EC Tryz.prog ir267_from3 st (K:=⟨a2m [.t 2] (.val (.bool (Y3 u.user [47,63,35,64] && a2i u.host && decide (0≤u.port∧u.port≤65535) && decide (u.port≠a02 u.scheme) && decide (0 < u.path.length) && decide ((u.path.getD 0 0).toNat=47))))⟩):=by
 unfold ir267_from3
 obtain ⟨s1,s2,s3,s4,s5,s6,s7⟩:=hs
 have e3:(⟨#[47,63,35,64]⟩:ByteArray)=bs [47,63,35,64]:=rfl
 simp [h1,hm,tx,num,b8,e3]
 refine l6 rfl rfl (.inl rfl) (a9l u.user [47,63,35,64] s2 (by simp)) ?_
 cases a1:Y3 u.user [47,63,35,64] with
 | false=>simp [h1,hm,tx,num,b8]
 | true=>
  simp [h1,hm,tx,num,b8]
  refine l6 rfl rfl (.inl rfl) (c87 u.host s3) ?_
  cases a2:a2i u.host with
  | false=>simp [h1,hm,tx,num,b8]
  | true=>
   simp [h1,hm,tx,num,b8]
   refine l6 rfl rfl (.inl rfl) (U4 .i64 u.port 0 65535) ?_
   cases a3:decide (0≤u.port∧u.port≤65535) with
   | false=>simp [h1,hm,tx,num,b8]
   | true=>
    simp [h1,hm,tx,num,b8]
    refine l6 rfl rfl (.inl rfl) (b6n u.scheme) ?_
    by_cases a4:u.port=a02 u.scheme
    · simp [h1,hm,tx,num,b8,a4]
    · simp [h1,hm,tx,num,b8,a4]
      by_cases a5:0 < u.path.length
      · have a5':u.path≠[]:=fun e=>by simp [e] at a5
        have e7:((u.path[0].toNat:Int)=47)↔u.path[0].toNat=47:=by omega
        simp [h1,hm,tx,num,b8,j5,a4,a5,a5',e7,List.getElem?_eq_getElem a5]
        by_cases h47:u.path[0].toNat=47
        · simp [h47]
        · have h47':((u.path[0].toNat:Int) == 47)=false:=by simp;omega
          rw [h47'];simp [h47]
      · simp [h1,hm,tx,num,b8,a4,a5]
def a6z (u:LUrl):Bool:=
 if a0x u.scheme then Y3 u.user [47,63,35,64] && a2i u.host && decide (0≤u.port∧u.port≤65535) && decide (u.port≠a02 u.scheme) && decide (0 < u.path.length) && decide ((u.path.getD 0 0).toNat=47)
 else decide (u.user=[]) && decide (u.host=[]) && decide (u.port=0) && !u.hasQ && !u.hasF
theorem c0j (u:LUrl) (hs:u.Small) (st:St) (h1:st.env 1=.ptr 1 0) (hm:st.mem 1=.box [.val (tx u.scheme),.val (tx u.user),.val (tx u.host),.val (num u.port),.val (tx u.path),.val (tx u.query),.val (tx u.frag),.val (.bool u.hasQ),.val (.bool u.hasF)]) :
 EC Tryz.prog ir267_from2 st (K:=⟨a2m [.t 2] (.val (.bool (a6z u)))⟩):=by
 unfold ir267_from2
 have e3:(⟨#[]⟩:ByteArray)=bs []:=rfl
 simp [h1,hm,tx,num,b8]
 refine b7 rfl rfl (.inl rfl) (a8z u.scheme) ?_
 cases hw:a0x u.scheme with
 | true=>
  simp [h1,hm,tx,num,b8]
  rw [show a6z u=_ by unfold a6z;rw [hw,if_pos rfl]]
  refine c0i u hs hw _ ?_ ?_<;>simp [h1,hm,tx,num]
 | false=>
  rw [show a6z u=_ by unfold a6z;rw [hw,if_neg (by simp)]]
  by_cases a1:u.user=[]
  · by_cases a2:u.host=[]
    · by_cases a3:u.port=0
      · cases a4:u.hasQ with
        | true=>simp [h1,hm,tx,num,b8,e3,L7,a1,a2,a3,a4]
        | false=>simp [h1,hm,tx,num,b8,e3,L7,a1,a2,a3,a4]
      · simp [h1,hm,tx,num,b8,e3,L7,a1,a2,a3]
    · simp [h1,hm,tx,num,b8,e3,L7,a1,a2]
  · simp [h1,hm,tx,num,b8,e3,L7,a1]
structure UO (st:St) (u:LUrl):Prop where
 e1:st.env 1=.ptr 1 0
 m1:st.mem 1=.box [.val (tx u.scheme),.val (tx u.user),.val (tx u.host),.val (num u.port),.val (tx u.path),.val (tx u.query),.val (tx u.frag),.val (.bool u.hasQ),.val (.bool u.hasF)]
section
variable {Ks:Kx (St→Prop)} {kx:Kx (RV→St→Prop)} {st:St} {u:LUrl} {b:Bool}
def c6w (u:LUrl):Bool:=decide (100 < (X6 u).length)
theorem okops43 (hs:u.Small) (h:UO st u) (hb:st.env 45=.val (.bool b)) (hK:∀ st',UO st' u→st'.env 50=.val (.bool (b || c6w u))→Ks.k st'):EO Tryz.prog ir267_ops1_43 st (Ks:=Ks) (kx:=kx):=by
 unfold ir267_ops1_43
 obtain ⟨e1,m1⟩:=h
 cases b with
 | true=>
  simp [hb]
  refine hK _ ⟨?_,?_⟩ ?_<;>simp [e1,m1]
 | false=>
  simp [hb,e1,m1]
  refine b7 rfl rfl (.inl rfl) (b2u u hs) ?_
  have e:((100:Int) < ((X6 u).length:Int))↔100 < (X6 u).length:=by omega
  simp [hb,e1,m1,tx,b8]
  refine hK _ ⟨?_,?_⟩ ?_<;>simp [e1,m1,c6w,e,tx,num]
def c6x (u:LUrl):Bool:=!Y3 u.frag [] || c6w u
theorem okops37 (hs:u.Small) (h:UO st u) (hb:st.env 39=.val (.bool b)) (hK:∀ st',UO st' u→st'.env 50=.val (.bool (b || c6x u))→Ks.k st'):EO Tryz.prog ir267_ops1_37 st (Ks:=Ks) (kx:=kx):=by
 unfold ir267_ops1_37
 have e3:(⟨#[]⟩:ByteArray)=bs []:=rfl
 cases b with
 | true=>
  simp [hb]
  refine okops43 (b:=true) hs ⟨?_,?_⟩ ?_ (fun st' q1 q2=>hK st' q1 ?_)
  · simp [h.e1]
  · simp [h.m1]
  · simp
  · simpa using q2
 | false=>
  simp [hb,h.e1,h.m1,e3,tx]
  refine b7 rfl rfl (.inl rfl) (a9l u.frag [] hs.2.2.2.2.2.1 (by simp)) ?_
  simp [hb,e3,tx]
  refine okops43 (b:=!Y3 u.frag []) hs ⟨?_,?_⟩ ?_ (fun st' q1 q2=>hK st' q1 ?_)
  · simp [h.e1]
  · simp [h.m1]
  · simp
  · simpa [c6x] using q2
def c6y (u:LUrl):Bool:=!Y3 u.query [35] || c6x u
theorem okops31 (hs:u.Small) (h:UO st u) (hb:st.env 33=.val (.bool b)) (hK:∀ st',UO st' u→st'.env 50=.val (.bool (b || c6y u))→Ks.k st'):EO Tryz.prog ir267_ops1_31 st (Ks:=Ks) (kx:=kx):=by
 unfold ir267_ops1_31
 have e3:(⟨#[35]⟩:ByteArray)=bs [35]:=rfl
 cases b with
 | true=>
  simp [hb]
  refine okops37 (b:=true) hs ⟨?_,?_⟩ ?_ (fun st' q1 q2=>hK st' q1 ?_)
  · simp [h.e1]
  · simp [h.m1]
  · simp
  · simpa using q2
 | false=>
  simp [hb,h.e1,h.m1,e3,tx]
  refine b7 rfl rfl (.inl rfl) (a9l u.query [35] hs.2.2.2.2.1 (by simp)) ?_
  simp [hb,e3,tx]
  refine okops37 (b:=!Y3 u.query [35]) hs ⟨?_,?_⟩ ?_ (fun st' q1 q2=>hK st' q1 ?_)
  · simp [h.e1]
  · simp [h.m1]
  · simp
  · simpa [c6y] using q2
def c6z (u:LUrl):Bool:=!Y3 u.path [63,35] || c6y u
theorem okops25 (hs:u.Small) (h:UO st u) (hb:st.env 27=.val (.bool b)) (hK:∀ st',UO st' u→st'.env 50=.val (.bool (b || c6z u))→Ks.k st'):EO Tryz.prog ir267_ops1_25 st (Ks:=Ks) (kx:=kx):=by
 unfold ir267_ops1_25
 have e3:(⟨#[63,35]⟩:ByteArray)=bs [63,35]:=rfl
 cases b with
 | true=>
  simp [hb]
  refine okops31 (b:=true) hs ⟨?_,?_⟩ ?_ (fun st' q1 q2=>hK st' q1 ?_)
  · simp [h.e1]
  · simp [h.m1]
  · simp
  · simpa using q2
 | false=>
  simp [hb,h.e1,h.m1,e3,tx]
  refine b7 rfl rfl (.inl rfl) (a9l u.path [63,35] hs.2.2.2.1 (by simp)) ?_
  simp [hb,e3,tx]
  refine okops31 (b:=!Y3 u.path [63,35]) hs ⟨?_,?_⟩ ?_ (fun st' q1 q2=>hK st' q1 ?_)
  · simp [h.e1]
  · simp [h.m1]
  · simp
  · simpa [c6z] using q2
def b6y (u:LUrl):Bool:=(!u.hasF && !decide (u.frag=[])) || c6z u
theorem okops15 (hs:u.Small) (h:UO st u) (hb:st.env 17=.val (.bool b)) (hK:∀ st',UO st' u→st'.env 50=.val (.bool (b || b6y u))→Ks.k st'):EO Tryz.prog ir267_ops1_15 st (Ks:=Ks) (kx:=kx):=by
 unfold ir267_ops1_15
 have e3:(⟨#[]⟩:ByteArray)=bs []:=rfl
 cases b with
 | true=>
  simp [hb]
  refine okops25 (b:=true) hs ⟨?_,?_⟩ ?_ (fun st' q1 q2=>hK st' q1 ?_)
  · simp [h.e1]
  · simp [h.m1]
  · simp
  · simpa using q2
 | false=>
  cases hf:u.hasF with
  | true=>
   simp [hb,h.e1,h.m1,e3,tx,hf]
   refine okops25 (b:=false) hs ⟨?_,?_⟩ ?_ (fun st' q1 q2=>hK st' q1 ?_)
   · simp [h.e1]
   · simp [h.m1]
   · simp
   · simpa [b6y,hf] using q2
  | false=>
   simp [hb,h.e1,h.m1,e3,tx,hf,L7]
   refine okops25 (b:=!decide (u.frag=[])) hs ⟨?_,?_⟩ ?_ (fun st' q1 q2=>hK st' q1 ?_)
   · simp [h.e1]
   · simp [h.m1]
   · simp
   · simpa [b6y,hf] using q2
end
theorem c6t (u:LUrl) (hs:u.Small):d8 Tryz.prog 267 [.val (X5 u)] (.ret (.val (.bool (R6 u))) []) []:=by
 refine f8 mixed ok267 rfl (fun _=>rfl) ?_
 unfold ir267
 rw [b6]
 have hlu:R6 u=(W3 u.scheme && (u.hasQ || decide (u.query=[])) && (u.hasF || decide (u.frag=[])) && Y3 u.path [63,35] && Y3 u.query [35] && Y3 u.frag [] && decide ((X6 u).length≤100) && a6z u):=rfl
 have hend:∀ st':St,UO st' u→∀ b,st'.env 50=.val (.bool (b || b6y u))→b=(!W3 u.scheme || (!u.hasQ && !decide (u.query=[]))) →
  CD (st'.env 50) (A:=⟨EC Tryz.prog (.seq (.reg [⟨some 2,.mov (.k (.val (.bool false))),none⟩]) .ret) st' (K:=⟨fun e st'=>ET e st' (Ks:=⟨fun st'=>EC Tryz.prog ir267_from2 st' (K:=⟨a2m [.t 2] (.val (.bool (R6 u)))⟩)⟩) (K:=⟨a2m [.t 2] (.val (.bool (R6 u)))⟩)⟩)⟩)
   (B:=⟨EC Tryz.prog .skip st' (K:=⟨fun e st'=>ET e st' (Ks:=⟨fun st'=>EC Tryz.prog ir267_from2 st' (K:=⟨a2m [.t 2] (.val (.bool (R6 u)))⟩)⟩) (K:=⟨a2m [.t 2] (.val (.bool (R6 u)))⟩)⟩)⟩):=by
  intro st' h b hb hbb
  have hlu2:R6 u=(!(b || b6y u) && a6z u):=by
   rw [hlu,hbb]
   unfold b6y c6z c6y c6x c6w
   have e:decide ((X6 u).length≤100)=!decide (100 < (X6 u).length):=by
    by_cases h:(X6 u).length≤100
    · have h':¬ 100 < (X6 u).length:=by omega
      simp [h,h']
    · have h':100 < (X6 u).length:=by omega
      simp [h,h']
   rw [e]
   cases W3 u.scheme<;>cases u.hasQ<;>cases u.hasF<;>cases decide (u.query=[])<;>cases decide (u.frag=[])<;>cases Y3 u.path [63,35]<;>cases Y3 u.query [35]<;>cases Y3 u.frag []<;>cases decide (100 < (X6 u).length)<;>rfl
  rw [hb,hlu2]
  cases (b || b6y u) with
  | true=>simp
  | false=>
   simp only [y8,G1,z1,F9,z6,s8,y9,G0,l9,B1,H1,H2,j7,p8,p9,l1,z7,q9,l3,F8,y7,q8,q7,D9,E1,a05,a06,Option.getD_some,Option.getD_none,C6,u6,o8,D6,o7,o0,D8,o2,D7,D5,D4,H6,x3,o5,D2,x1,o4,D1,C4,D3,x2,C9,n9,w9,D0,H8,H7,C5,C7,o3,C8,x4,o6,B4,n0,C3,C2,C1,H3,w7,n6,B9,w5,n5,B8,B2,C0,w6,B6,m8,v8,B7,H5,H4,B3,v7,n8,B5,w8,n7,J6,J5,K9,J7,K3,J9,J8,K8,K2,K4,K5,K6,K7,A1,A0,z8,M5,M6,A4,G2,u7,E5,x7,L3,t6,Q6,M9,M0,O1,O3,O2,Q7,Q8,I8,J0,I9,J1,J2,N8,x9,N7,E6,E7,E8,y0,a09,F5,y6,Q4,Q5,H9,M7,M8,Option.map_some,Option.map_none,E9,y4,x6,o9,E3,E4,I2,I1,O8,O7,J4,F6,F7,J3,O4,O5,I4,p6,I5,p5,N2,F4,F3,l2,O0,O6,I7,N4,N6,N5,x8,A8,B0,A9,k7,N9,R0,Q9,N0,I6,U8,N1,p7,F1,F2,y5,F0,l0,u9,k9,v6,k8,L2,O9,P0,A2,A3,G4,G3,E2]
   refine f7 (fun h=>by cases h) (fun _=>?_)
   simp only [y8,G1,z1,F9,z6,s8,y9,G0,l9,B1,H1,H2,j7,p8,p9,l1,z7,q9,l3,F8,y7,q8,q7,D9,E1,a05,a06,Option.getD_some,Option.getD_none,C6,u6,o8,D6,o7,o0,D8,o2,D7,D5,D4,H6,x3,o5,D2,x1,o4,D1,C4,D3,x2,C9,n9,w9,D0,H8,H7,C5,C7,o3,C8,x4,o6,B4,n0,C3,C2,C1,H3,w7,n6,B9,w5,n5,B8,B2,C0,w6,B6,m8,v8,B7,H5,H4,B3,v7,n8,B5,w8,n7,J6,J5,K9,J7,K3,J9,J8,K8,K2,K4,K5,K6,K7,A1,A0,z8,M5,M6,A4,G2,u7,E5,x7,L3,t6,Q6,M9,M0,O1,O3,O2,Q7,Q8,I8,J0,I9,J1,J2,N8,x9,N7,E6,E7,E8,y0,a09,F5,y6,Q4,Q5,H9,M7,M8,Option.map_some,Option.map_none,E9,y4,x6,o9,E3,E4,I2,I1,O8,O7,J4,F6,F7,J3,O4,O5,I4,p6,I5,p5,N2,F4,F3,l2,O0,O6,I7,N4,N6,N5,x8,A8,B0,A9,k7,N9,R0,Q9,N0,I6,U8,N1,p7,F1,F2,y5,F0,l0,u9,k9,v6,k8,L2,O9,P0,A2,A3,G4,G3,E2]
   exact c0j u hs st' h.e1 h.m1
 simp [d9,i6,j9,b9,d7,X5,tx,num,b8]
 refine b7 rfl rfl (.inl rfl) (c2v u.scheme hs.1) ?_
 have e3:(⟨#[]⟩:ByteArray)=bs []:=rfl
 cases b1:W3 u.scheme with
 | false=>
  simp [tx,num,b8]
  refine okops15 (b:=true) hs ⟨?_,?_⟩ ?_ (fun st' q1 q2=>hend st' q1 true q2 (by simp [b1]))
  · simp
  · simp [tx,num]
  · simp
 | true=>
  cases hq:u.hasQ with
  | true=>
   simp [tx,num,b8,hq]
   refine okops15 (b:=false) hs ⟨?_,?_⟩ ?_ (fun st' q1 q2=>hend st' q1 false q2 (by simp [b1,hq]))
   · simp
   · simp [tx,num,hq]
   · simp
  | false=>
   simp [tx,num,b8,hq,e3,L7]
   refine okops15 (b:=!decide (u.query=[])) hs ⟨?_,?_⟩ ?_ (fun st' q1 q2=>hend st' q1 _ q2 (by simp [b1,hq]))
   · simp
   · simp [tx,num,hq]
   · simp
end Go.Proofs
end
section
namespace Go.Proofs
open Go.PW Go.KP
attribute [local simp] RV.cells RV.one PV.cells PV.solid PV.one G6 i7 M3 L4 RV.ofCells elems PV.killL
variable [GF]
abbrev prs (r:LUrl×Bool):Kx (PExit→St→Prop):=⟨a2m [.c 2 true 9,.t 3] (a6k r)⟩
structure UP (st:St) (u:LUrl) (r:Tx):Prop where
 e2:st.env 2=.ptr 2 0
 e5:st.env 5=.ptr 5 0
 e6:st.env 6=.val (tx r)
 m2:st.mem 2=.box (f5 LUrl.zero)
 m5:st.mem 5=.box (f5 u)
theorem a4s (t:Tx) (k:Nat):List.drop k (List.take t.length t)=t.drop k:=by rw [List.take_length]
theorem a62 (u:LUrl) (hs:u.Small) (r:Tx) (st:St) (h:UP st u r):EC Tryz.prog ir200_from18 st (K:=prs (u,R6 u)):=by
 unfold ir200_from18
 obtain ⟨e2,e5,e6,m2,m5⟩:=h
 simp [e2,e5,m2,m5,f5,i7,tx,num]
 refine l6 rfl rfl (.inl rfl) (c6t u hs) ?_
 simp [e2,e5,m2,m5,f5,i7,tx,num]
 refine a72 (id:=2) ?_ ?_ ?_
 · simp [e2]
 · simp [e2,f5,tx,num]
 · simp
theorem a1e (st:St) (e2:st.env 2=.ptr 2 0) (m2:st.mem 2=.box (f5 LUrl.zero)) (e3:st.env 3=.val (.bool false)):a2m [.c 2 true 9,.t 3] (a6k (LUrl.zero,false)) .ret st:=
 a72 e2 m2 e3
def T7 (u:LUrl) (r:Tx):LUrl×Bool:=match a2q u.scheme r with
 | none=>(LUrl.zero,false)
 | some p=>({ u with port:=p },R6 { u with port:=p })
theorem c4b {t:Tx} {n:Int} (h:X3 t=some n):n≤1000000000000000000:=by
 obtain ⟨_,_,u,h1,h2,h3,h4⟩:=a69 h
 have:=b4c u h2
 have h5:V9 u < 10 ^ 18:=Nat.lt_of_lt_of_le this (Nat.pow_le_pow_right (by omega) h3)
 have h6:(10:Nat) ^ 18=1000000000000000000:=by decide
 rcases h4 with h4 | h4<;>omega
theorem b84 (u:LUrl) (hs:u.Small) (hp:u.port=0) (r:Tx) (hr:r.length < 1099511627776) (st:St) (h:UP st u r) (e4:st.env 4=.val (num (N3 r 58))):EC Tryz.prog ir200_from17 st (K:=prs (T7 u r)):=by
 unfold ir200_from17
 obtain ⟨e2,e5,e6,m2,m5⟩:=h
 have hle:=a1j r 58
 by_cases hc:58∈r
 · have hlt:=W8.2 hc
   have g1:((N3 r 58:Nat):Int) < (r.length:Int):=by omega
   have g2:IntKind.i64.wrap ((N3 r 58:Nat)+1:Int)=((N3 r 58+1:Nat):Int):=by rw [wrap_i64 (by omega) (by omega)];omega
   have g3:N3 r 58+1≤r.length:=by omega
   have g4:(0:Int)≤((N3 r 58:Nat):Int)+1:=by omega
   simp [e2,e4,e5,e6,m2,m5,tx,num,b8,g1,g2,g3,g4,S5,a4s,hlt]
   have hn:=c2x (G9 r 58) (by have:=a0d r 58;omega)
   cases hnum:X3 (G9 r 58) with
   | none=>
    rw [hnum] at hn
    refine Z0 rfl rfl (.inl rfl) hn ?_
    rw [show T7 u r=(LUrl.zero,false) by simp [T7,a2q,hc,hnum]]
    simp [e2,e4,e5,e6,m2,m5,tx,num,f5]
    refine a1e _ ?_ ?_ ?_
    · simp [e2]
    · simp [f5,LUrl.zero,tx,num,bs]
    · simp
   | some n=>
    have hn1:=c4b hnum
    rw [hnum] at hn
    refine Z0 rfl rfl (.inl rfl) hn ?_
    by_cases hin:1≤n∧n≤65535
    · simp [e2,e4,e5,e6,m2,m5,tx,num,f5]
      refine b7 rfl rfl (.inl rfl) (U4 .i64 n 1 65535) ?_
      simp [e2,e4,e5,e6,m2,m5,tx,num,f5,hin]
      refine b7 rfl rfl (.inl rfl) (b6n u.scheme) ?_
      by_cases hu:n=a02 u.scheme
      · have e:T7 u r=(u,R6 u):=by
         have hl:a2q u.scheme r=some 0:=by
          simp only [a2q,hc,hnum,hin,if_true,and_self]
          rw [if_pos hu]
         have:({ u with port:=0 }:LUrl)=u:=by rw [← hp]
         simp only [T7,hl,this]
        rw [e]
        simp [e2,e4,e5,e6,m2,m5,tx,num,f5,hu]
        refine a62 u hs r _ ⟨?_,?_,?_,?_,?_⟩<;>simp [e2,e5,e6,m2,m5,f5,tx,num]
      · have e:T7 u r=({ u with port:=n },R6 { u with port:=n }):=by
         simp only [T7,a2q,hc,hnum,hin,if_true,and_self,hu,if_false]
        rw [e]
        simp [e2,e4,e5,e6,m2,m5,tx,num,f5,hu]
        refine a62 { u with port:=n } ?_ r _ ⟨?_,?_,?_,?_,?_⟩
        · exact ⟨hs.1,hs.2.1,hs.2.2.1,hs.2.2.2.1,hs.2.2.2.2.1,hs.2.2.2.2.2.1,by show n≤_;omega⟩
        all_goals simp [e2,e5,e6,m2,m5,f5,tx,num]
    · rw [show T7 u r=(LUrl.zero,false) by simp only [T7,a2q,hc,hnum,hin,if_true,if_false]]
      simp [e2,e4,e5,e6,m2,m5,tx,num,f5]
      refine b7 rfl rfl (.inl rfl) (U4 .i64 n 1 65535) ?_
      have hd:decide (1≤n∧n≤65535)=false:=decide_eq_false hin
      rw [hd]
      simp [e2,e4,e5,e6,m2,m5,tx,num,f5]
      refine a1e _ ?_ ?_ ?_
      · simp [e2]
      · simp [f5,LUrl.zero,tx,num,bs]
      · simp
 · have hge:N3 r 58=r.length:=by have:=mt W8.1 hc;omega
   have e:T7 u r=(u,R6 u):=by
    simp only [T7,a2q,hc,if_false]
    have:({ u with port:=0 }:LUrl)=u:=by rw [← hp]
    rw [this]
   rw [e]
   simp [e2,e4,e5,e6,m2,m5,tx,num,b8,hge]
   refine a62 u hs r _ ⟨?_,?_,?_,?_,?_⟩<;>simp [e2,e5,e6,m2,m5,f5,tx,num]
theorem b08 (sc us pa qu fr:Tx) (hq hf:Bool) (h1:sc.length < 1099511627776) (h2:us.length < 1099511627776) (h3:pa.length < 1099511627776) (h4:qu.length < 1099511627776) (h5:fr.length < 1099511627776) (r:Tx) (hr:r.length < 1099511627776) (st:St)
 (h:UP st ⟨sc,us,[],0,pa,qu,fr,hq,hf⟩ r):EC Tryz.prog ir200_from15 st (K:=prs (T7 ⟨sc,us,R8 (k6 r 58),0,pa,qu,fr,hq,hf⟩ r)):=by
 unfold ir200_from15
 obtain ⟨e2,e5,e6,m2,m5⟩:=h
 have hle:=a1j r 58
 simp [e2,e5,e6,m2,m5,tx,num,b8]
 refine b7 rfl rfl (.inl rfl) (a2c r 58 hr) ?_
 simp [e2,e5,e6,m2,m5,tx,num,b8,hle,S5]
 refine b7 rfl rfl (.inl rfl) (b6p (k6 r 58) (by have:=S3 r 58;omega)) ?_
 simp [e2,e5,e6,m2,m5,tx,num,b8,f5]
 refine b84 ⟨sc,us,R8 (k6 r 58),0,pa,qu,fr,hq,hf⟩ ?_ rfl r hr _ ⟨?_,?_,?_,?_,?_⟩ ?_
 · refine ⟨h1,h2,?_,h3,h4,h5,by show (0:Int)≤_;omega⟩
   have:=S3 r 58
   simp [R8];omega
 all_goals simp [e2,e5,e6,m2,m5,f5,tx,num]
theorem b09 (sc pa qu fr:Tx) (hq hf:Bool) (h1:sc.length < 1099511627776) (h3:pa.length < 1099511627776) (h4:qu.length < 1099511627776) (h5:fr.length < 1099511627776) (r:Tx) (hr:r.length < 1099511627776) (st:St)
 (h:UP st ⟨sc,[],[],0,pa,qu,fr,hq,hf⟩ r):EC Tryz.prog ir200_from14 st (K:=prs (T7 ⟨sc,if 64∈r then k6 r 64 else [],R8 (k6 (if 64∈r then G9 r 64 else r) 58),0,pa,qu,fr,hq,hf⟩ (if 64∈r then G9 r 64 else r))):=by
 unfold ir200_from14
 obtain ⟨e2,e5,e6,m2,m5⟩:=h
 have hle:=a1j r 64
 simp [e2,e5,e6,m2,m5,tx,num,b8]
 refine b7 rfl rfl (.inl rfl) (a2c r 64 hr) ?_
 by_cases hc:64∈r
 · have hlt:=W8.2 hc
   have g2:IntKind.i64.wrap ((N3 r 64:Nat)+1:Int)=((N3 r 64+1:Nat):Int):=by rw [wrap_i64 (by omega) (by omega)];omega
   have g3:N3 r 64+1≤r.length:=by omega
   have g4:(0:Int)≤((N3 r 64:Nat):Int)+1:=by omega
   simp [e2,e5,e6,m2,m5,tx,num,b8,f5,hlt,hle,g2,g3,g4,S5,a4s]
   have e:(if 64∈r then G9 r 64 else r)=G9 r 64:=if_pos hc
   rw [if_pos hc,e]
   refine b08 sc (k6 r 64) pa qu fr hq hf h1 (by have:=S3 r 64;omega) h3 h4 h5 (G9 r 64) (by have:=a0d r 64;omega) _ ⟨?_,?_,?_,?_,?_⟩<;>simp [e2,e5,e6,m2,m5,f5,tx,num,k6,G9]
 · have hge:N3 r 64=r.length:=by have:=mt W8.1 hc;omega
   simp [e2,e5,e6,m2,m5,tx,num,b8,hge]
   have e:(if 64∈r then G9 r 64 else r)=r:=if_neg hc
   rw [if_neg hc,e]
   refine b08 sc [] pa qu fr hq hf h1 (by simp) h3 h4 h5 r hr _ ⟨?_,?_,?_,?_,?_⟩<;>simp [e2,e5,e6,m2,m5,f5,tx,num]
def b4a (sc pa qu fr:Tx) (hq hf:Bool) (r:Tx):LUrl×Bool:=
 T7 ⟨sc,if 64∈r then k6 r 64 else [],R8 (k6 (if 64∈r then G9 r 64 else r) 58),0,pa,qu,fr,hq,hf⟩ (if 64∈r then G9 r 64 else r)
theorem b85 (sc qu fr:Tx) (hq hf:Bool) (h1:sc.length < 1099511627776) (h4:qu.length < 1099511627776) (h5:fr.length < 1099511627776) (r:Tx) (hr:r.length < 1099511627776) (st:St)
 (h:UP st ⟨sc,[],[],0,r.drop (N3 r 47),qu,fr,hq,hf⟩ r) (e4:st.env 4=.val (num (N3 r 47))):EC Tryz.prog ir200_from12 st (K:=prs (b4a sc (if 47∈r then r.drop (N3 r 47) else [47]) qu fr hq hf (k6 r 47))):=by
 unfold ir200_from12
 obtain ⟨e2,e5,e6,m2,m5⟩:=h
 have hle:=a1j r 47
 have e3:(⟨#[]⟩:ByteArray)=bs []:=rfl
 by_cases hc:47∈r
 · have hlt:=W8.2 hc
   have hne:¬ r.drop (N3 r 47)=[]:=by
    intro e;have:=congrArg List.length e;simp at this;omega
   have hne2:¬ r.length≤N3 r 47:=by omega
   rw [if_pos hc]
   simp [e2,e4,e5,e6,m2,m5,tx,num,b8,f5,e3,L7,hne,hne2,hle,S5]
   refine b09 sc (r.drop (N3 r 47)) qu fr hq hf h1 (by simp;omega) h4 h5 (k6 r 47) (by have:=S3 r 47;omega) _ ⟨?_,?_,?_,?_,?_⟩<;>simp [e2,e5,e6,m2,m5,f5,tx,num,k6]
 · have hge:N3 r 47=r.length:=by have:=mt W8.1 hc;omega
   have e4':(⟨#[47]⟩:ByteArray)=bs [47]:=rfl
   rw [if_neg hc]
   simp [e2,e4,e5,e6,m2,m5,tx,num,b8,f5,e3,e4',L7,hge,S5]
   refine b09 sc [47] qu fr hq hf h1 (by simp) h4 h5 (k6 r 47) (by have:=S3 r 47;omega) _ ⟨?_,?_,?_,?_,?_⟩<;>simp [e2,e5,e6,m2,m5,f5,tx,num,k6,hge]
def a9a (sc qu fr:Tx) (hq hf:Bool) (r:Tx):LUrl×Bool:=b4a sc (if 47∈r then r.drop (N3 r 47) else [47]) qu fr hq hf (k6 r 47)
theorem b1a (sc qu fr:Tx) (hq hf:Bool) (h1:sc.length < 1099511627776) (h4:qu.length < 1099511627776) (h5:fr.length < 1099511627776) (r:Tx) (hr:r.length < 1099511627776) (st:St)
 (h:UP st ⟨sc,[],[],0,[],qu,fr,hq,hf⟩ r):EC Tryz.prog ir200_from10 st (K:=prs (a9a sc qu fr hq hf r)):=by
 unfold ir200_from10
 obtain ⟨e2,e5,e6,m2,m5⟩:=h
 have hle:=a1j r 47
 simp [e2,e5,e6,m2,m5,tx,num,b8]
 refine b7 rfl rfl (.inl rfl) (a2c r 47 hr) ?_
 simp [e2,e5,e6,m2,m5,tx,num,b8,hle,S5,f5,a4s]
 refine b85 sc qu fr hq hf h1 h4 h5 r hr _ ⟨?_,?_,?_,?_,?_⟩ ?_<;>simp [e2,e5,e6,m2,m5,f5,tx,num]
theorem b29 (sc fr:Tx) (hf:Bool) (h1:sc.length < 1099511627776) (h5:fr.length < 1099511627776) (r:Tx) (hr:r.length < 1099511627776) (st:St)
 (h:UP st ⟨sc,[],[],0,[],[],fr,false,hf⟩ r):EC Tryz.prog ir200_from9 st (K:=prs (a9a sc (G9 r 63) fr (decide (63∈r)) hf (k6 r 63))):=by
 unfold ir200_from9
 obtain ⟨e2,e5,e6,m2,m5⟩:=h
 have hle:=a1j r 63
 simp [e2,e5,e6,m2,m5,tx,num,b8]
 refine b7 rfl rfl (.inl rfl) (a2c r 63 hr) ?_
 by_cases hc:63∈r
 · have hlt:=W8.2 hc
   have g2:IntKind.i64.wrap ((N3 r 63:Nat)+1:Int)=((N3 r 63+1:Nat):Int):=by rw [wrap_i64 (by omega) (by omega)];omega
   have g3:N3 r 63+1≤r.length:=by omega
   have g4:(0:Int)≤((N3 r 63:Nat):Int)+1:=by omega
   simp [e2,e5,e6,m2,m5,tx,num,b8,f5,hlt,hle,g2,g3,g4,S5,a4s]
   rw [decide_eq_true hc]
   refine b1a sc (G9 r 63) fr true hf h1 (by have:=a0d r 63;omega) h5 (k6 r 63) (by have:=S3 r 63;omega) _ ⟨?_,?_,?_,?_,?_⟩<;>simp [e2,e5,e6,m2,m5,f5,tx,num,k6,G9]
 · have hge:N3 r 63=r.length:=by have:=mt W8.1 hc;omega
   simp [e2,e5,e6,m2,m5,tx,num,b8,hge]
   rw [decide_eq_false hc,a1z hc,b0f hc]
   refine b1a sc [] fr false hf h1 (by simp) h5 r hr _ ⟨?_,?_,?_,?_,?_⟩<;>simp [e2,e5,e6,m2,m5,f5,tx,num]
theorem c05 (sc:Tx) (h1:sc.length < 1099511627776) (r:Tx) (hr:r.length < 1099511627776) (st:St)
 (h:UP st ⟨sc,[],[],0,[],[],[],false,false⟩ r):EC Tryz.prog ir200_from8 st (K:=prs (a5x sc r)):=by
 unfold ir200_from8
 obtain ⟨e2,e5,e6,m2,m5⟩:=h
 have hle:=a1j r 35
 have e:a5x sc r=a9a sc (G9 (k6 r 35) 63) (G9 r 35) (decide (63∈k6 r 35)) (decide (35∈r)) (k6 (k6 r 35) 63):=rfl
 rw [e]
 simp [e2,e5,e6,m2,m5,tx,num,b8]
 refine b7 rfl rfl (.inl rfl) (a2c r 35 hr) ?_
 by_cases hc:35∈r
 · have hlt:=W8.2 hc
   have g2:IntKind.i64.wrap ((N3 r 35:Nat)+1:Int)=((N3 r 35+1:Nat):Int):=by rw [wrap_i64 (by omega) (by omega)];omega
   have g3:N3 r 35+1≤r.length:=by omega
   have g4:(0:Int)≤((N3 r 35:Nat):Int)+1:=by omega
   simp [e2,e5,e6,m2,m5,tx,num,b8,f5,hlt,hle,g2,g3,g4,S5,a4s]
   rw [decide_eq_true hc]
   refine b29 sc (G9 r 35) true h1 (by have:=a0d r 35;omega) (k6 r 35) (by have:=S3 r 35;omega) _ ⟨?_,?_,?_,?_,?_⟩<;>simp [e2,e5,e6,m2,m5,f5,tx,num,k6,G9]
 · have hge:N3 r 35=r.length:=by have:=mt W8.1 hc;omega
   simp [e2,e5,e6,m2,m5,tx,num,b8,hge]
   rw [decide_eq_false hc,a1z hc,b0f hc]
   refine b29 sc [] false h1 (by simp) r hr _ ⟨?_,?_,?_,?_,?_⟩<;>simp [e2,e5,e6,m2,m5,f5,tx,num]
theorem c06 (sc:Tx) (h1:sc.length < 1099511627776) (r:Tx) (hr:r.length < 1099511627776) (st:St)
 (h:UP st ⟨sc,[],[],0,[],[],[],false,false⟩ r):EC Tryz.prog ir200_from5 st (K:=prs (if a0x sc then if r.take 2=[47,47] then a5x sc (r.drop 2) else (LUrl.zero,false) else (⟨sc,[],[],0,k6 (k6 r 35) 63,[],[],false,false⟩,R6 ⟨sc,[],[],0,k6 (k6 r 35) 63,[],[],false,false⟩))):=by
 unfold ir200_from5
 obtain ⟨e2,e5,e6,m2,m5⟩:=h
 have e7:(⟨#[47,47]⟩:ByteArray)=bs [47,47]:=rfl
 simp [e2,e5,e6,m2,m5,tx,num,b8,f5]
 refine b7 rfl rfl (.inl rfl) (a8z sc) ?_
 by_cases hw:a0x sc=true
 · rw [if_pos hw]
   by_cases h2:r.length < 2
   · have h2':(r.length:Int) < 2:=by omega
     have ht:¬ r.take 2=[47,47]:=fun e=>by have:=congrArg List.length e;simp at this;omega
     rw [if_neg ht]
     simp [e2,e5,e6,m2,m5,tx,num,b8,f5,hw,h2']
     refine a1e _ ?_ ?_ ?_
     · simp [e2]
     · simp [f5,LUrl.zero,tx,num,bs]
     · simp
   · have h2':¬ (r.length:Int) < 2:=by omega
     have h2'':(2:Int)≤r.length:=by omega
     have h2n:2≤r.length:=by omega
     by_cases ht:r.take 2=[47,47]
     · rw [if_pos ht]
       simp [e2,e5,e6,m2,m5,tx,num,b8,f5,hw,h2',h2'',h2n,e7,S5,ht,a4s]
       refine c05 sc h1 (r.drop 2) (by simp;omega) _ ⟨?_,?_,?_,?_,?_⟩<;>simp [e2,e5,e6,m2,m5,f5,tx,num]
     · rw [if_neg ht]
       simp [e2,e5,e6,m2,m5,tx,num,b8,f5,hw,h2',h2'',h2n,e7,S5,L7,ht]
       refine a1e _ ?_ ?_ ?_
       · simp [e2]
       · simp [f5,LUrl.zero,tx,num,bs]
       · simp
 · rw [if_neg hw]
   have hl1:=a1j r 35
   have hl2:=a1j (k6 r 35) 63
   have hl3:=S3 r 35
   have hl4:=S3 (k6 r 35) 63
   simp [e2,e5,e6,m2,m5,tx,num,b8,f5,hw]
   refine b7 rfl rfl (.inl rfl) (a2c r 35 hr) ?_
   simp [e2,e5,e6,m2,m5,tx,num,b8,f5,hw,hl1,S5]
   refine b7 rfl rfl (.inl rfl) (a2c (k6 r 35) 63 (by omega)) ?_
   have hl2':N3 (k6 r 35) 63≤N3 r 35∧N3 (k6 r 35) 63≤r.length:=by
    refine ⟨?_,by omega⟩
    have:(k6 r 35).length≤N3 r 35:=by unfold k6;simp;omega
    omega
   have hl2i:((N3 (k6 r 35) 63:Nat):Int)≤(min (N3 r 35) r.length:Nat):=by omega
   simp [e2,e5,e6,m2,m5,tx,num,b8,f5,hw,hl1,hl2',S5,i7]
   refine l6 rfl rfl (.inl rfl) (c6t ⟨sc,[],[],0,k6 (k6 r 35) 63,[],[],false,false⟩ ⟨h1,by simp,by simp,by show (k6 (k6 r 35) 63).length < _;omega,by simp,by simp,by show (0:Int)≤_;omega⟩) ?_
   simp [e2,e5,e6,m2,m5,tx,num,b8,f5,hw,hl1,S5,i7]
   refine a72 (id:=2) ?_ ?_ ?_
   · simp [e2]
   · simp [f5,tx,num,k6]
   · simp
theorem b6o (t:Tx) (ht:t.length < 1099511627776):d8 Tryz.prog 200 [.val (tx t)] (.ret (a6k (I3 t)) []) []:=by
 refine f8 mixed ok200 rfl (fun _=>rfl) ?_
 unfold ir200
 rw [b6]
 have hle:=a1j t 58
 simp [d9,i6,j9,b9,d7,tx,num,b8]
 refine b7 rfl rfl (.inl rfl) (a2c t 58 ht) ?_
 by_cases hc:58∈t
 · have hlt:=W8.2 hc
   have hne:¬ ((N3 t 58:Nat):Int)=(t.length:Int):=by omega
   have hne':¬ N3 t 58=t.length:=by omega
   have g2:IntKind.i64.wrap ((N3 t 58:Nat)+1:Int)=((N3 t 58+1:Nat):Int):=by rw [wrap_i64 (by omega) (by omega)];omega
   have g3:N3 t 58+1≤t.length:=by omega
   have g4:(0:Int)≤((N3 t 58:Nat):Int)+1:=by omega
   simp [tx,num,b8,hlt,hle,hne,hne',S5]
   refine b7 rfl rfl (.inl rfl) (b6p (k6 t 58) (by have:=S3 t 58;omega)) ?_
   simp [tx,num,b8,hlt,hle,hne,hne',g2,g3,g4,S5,a4s]
   rw [show I3 t=(if a0x (R8 (k6 t 58)) then if (G9 t 58).take 2=[47,47] then a5x (R8 (k6 t 58)) ((G9 t 58).drop 2) else (LUrl.zero,false) else (⟨R8 (k6 t 58),[],[],0,k6 (k6 (G9 t 58) 35) 63,[],[],false,false⟩,R6 ⟨R8 (k6 t 58),[],[],0,k6 (k6 (G9 t 58) 35) 63,[],[],false,false⟩)) by unfold I3;rw [if_pos hc]]
   refine c06 (R8 (k6 t 58)) (by have:=S3 t 58;simp [R8];omega) (G9 t 58) (by have:=a0d t 58;omega) _ ⟨?_,?_,?_,?_,?_⟩<;>simp [f5,tx,num,LUrl.zero,bs,G9]
 · have hge:N3 t 58=t.length:=by have:=mt W8.1 hc;omega
   rw [show I3 t=(LUrl.zero,false) by unfold I3;rw [if_neg hc]]
   simp [tx,num,b8,hge]
   refine a1e _ ?_ ?_ ?_
   · simp
   · simp [f5,LUrl.zero,tx,num,bs]
   · simp
end Go.Proofs
end
section
namespace Go.Proofs
open Go.PW Go.KP
attribute [local simp] RV.cells RV.one PV.cells PV.solid PV.one G6 i7 M3 L4 RV.ofCells elems PV.killL
variable [GF]
structure TO (st:St) (x:LTarget) (u:LUrl):Prop where
 e1:st.env 1=.ptr 1 0
 e3:st.env 3=.ptr 3 0
 m1:st.mem 1=.box [.val (tx x.url),.val (num x.prio),.val (num x.weight)]
 m3:st.mem 3=.box (f5 u)
section
variable {Ks:Kx (St→Prop)} {st:St} {x:LTarget} {u:LUrl} {b:Bool}
def tg35 (x:LTarget):Bool:=decide (1≤x.weight∧x.weight≤9)
theorem c9k (h:TO st x u) (hb:st.env 34=.val (.bool b)) (hK:∀ st',TO st' x u→st'.env 38=.val (.bool (b && tg35 x))→Ks.k st'):EX Tryz.prog ir231_o35 st (Ks:=Ks):=by
 unfold ir231_o35
 cases b with
 | false=>
  simp [hb]
  refine hK _ ⟨?_,?_,?_,?_⟩ ?_<;>simp [h.e1,h.e3,h.m1,h.m3]
 | true=>
  simp [hb,h.e1,h.m1,num]
  refine l6 rfl rfl (.inl rfl) (U4 .i64 x.weight 1 9) ?_
  simp [hb]
  refine hK _ ⟨?_,?_,?_,?_⟩ ?_<;>simp [h.e1,h.e3,h.m1,h.m3,tg35]
def tg30 (x:LTarget):Bool:=decide (1≤x.prio∧x.prio≤9) && tg35 x
theorem c9l (h:TO st x u) (hb:st.env 29=.val (.bool b)) (hK:∀ st',TO st' x u→st'.env 38=.val (.bool (b && tg30 x))→Ks.k st'):EX Tryz.prog ir231_o30 st (Ks:=Ks):=by
 unfold ir231_o30
 cases b with
 | false=>
  simp [hb]
  refine c9k (x:=x) (u:=u) (b:=false) ⟨?_,?_,?_,?_⟩ ?_ (fun st' q1 q2=>hK st' q1 (by simpa using q2))<;>simp [h.e1,h.e3,h.m1,h.m3]
 | true=>
  simp [hb,h.e1,h.m1,num]
  refine l6 rfl rfl (.inl rfl) (U4 .i64 x.prio 1 9) ?_
  simp [hb]
  refine c9k (x:=x) (u:=u) (b:=decide (1≤x.prio∧x.prio≤9)) ⟨?_,?_,?_,?_⟩ ?_ (fun st' q1 q2=>hK st' q1 (by rw [q2];simp [tg30]))<;>simp [h.e1,h.e3,h.m1,h.m3]
def tg23 (x:LTarget) (u:LUrl):Bool:=decide (X6 u=x.url) && tg30 x
theorem c9m (hs:u.Small) (h:TO st x u) (hb:st.env 22=.val (.bool b)) (hK:∀ st',TO st' x u→st'.env 38=.val (.bool (b && tg23 x u))→Ks.k st'):EX Tryz.prog ir231_o23 st (Ks:=Ks):=by
 unfold ir231_o23
 cases b with
 | false=>
  simp [hb]
  refine c9l (x:=x) (u:=u) (b:=false) ⟨?_,?_,?_,?_⟩ ?_ (fun st' q1 q2=>hK st' q1 (by simpa using q2))<;>simp [h.e1,h.e3,h.m1,h.m3]
 | true=>
  simp [hb,h.e1,h.m1,h.e3,h.m3,num,tx,f5,i7]
  refine l6 rfl rfl (.inl rfl) (b2u u hs) ?_
  simp [hb,h.e1,h.m1,num,tx,L7]
  refine c9l (x:=x) (u:=u) (b:=decide (X6 u=x.url)) ⟨?_,?_,?_,?_⟩ ?_ (fun st' q1 q2=>hK st' q1 (by rw [q2];simp [tg23]))<;>simp [h.e1,h.e3,h.m1,h.m3]
def tg18 (x:LTarget) (u:LUrl):Bool:=!u.hasF && tg23 x u
theorem c9n (hs:u.Small) (h:TO st x u) (hb:st.env 17=.val (.bool b)) (hK:∀ st',TO st' x u→st'.env 38=.val (.bool (b && tg18 x u))→Ks.k st'):EX Tryz.prog ir231_o18 st (Ks:=Ks):=by
 unfold ir231_o18
 cases b with
 | false=>
  simp [hb]
  refine c9m (x:=x) (u:=u) (b:=false) hs ⟨?_,?_,?_,?_⟩ ?_ (fun st' q1 q2=>hK st' q1 (by simpa using q2))<;>simp [h.e1,h.e3,h.m1,h.m3]
 | true=>
  simp [hb,h.e1,h.m1,h.e3,h.m3,num,tx,f5,i7]
  refine c9m (x:=x) (u:=u) (b:=!u.hasF) hs ⟨?_,?_,?_,?_⟩ ?_ (fun st' q1 q2=>hK st' q1 (by rw [q2];simp [tg18]))<;>simp [h.e1,h.e3,h.m1,h.m3,f5,tx,num]
end
theorem b3q (x:LTarget) (hx:x.url.length < 1099511627776):d8 Tryz.prog 231 [.val (f9 x)] (.ret (.val (.bool (P6 x))) []) []:=by
 refine f8 mixed ok231 rfl (fun _=>rfl) ?_
 unfold ir231
 rw [b6]
 have hs:=b1l hx
 simp [d9,i6,j9,b9,d7,f9,tx,num]
 have hp:=b6o x.url hx
 have e:P6 x=(((I3 x.url).2 && a0x (I3 x.url).1.scheme) && tg18 x (I3 x.url).1):=by
  unfold P6 tg18 tg23 tg30 tg35
  simp only [Bool.and_assoc]
 rw [e]
 generalize I3 x.url=r at *
 obtain ⟨u,ok⟩:=r
 dsimp only at *
 refine Z0 rfl rfl (.inl rfl) hp ?_
 simp [d9,i6,j9,b9,d7,X5,tx,num]
 cases ok with
 | false=>
  simp
  refine c9n (x:=x) (u:=u) (b:=false) hs ⟨?_,?_,?_,?_⟩ ?_ (fun st' q1 q2=>?_)
  all_goals simp [f5,tx,num]
  simp [q2,y8,G1,z1,F9,z6,s8,y9,G0,l9,B1,H1,H2,j7,p8,p9,l1,z7,q9,l3,F8,y7,q8,q7,D9,E1,a05,a06,Option.getD_some,Option.getD_none,C6,u6,o8,D6,o7,o0,D8,o2,D7,D5,D4,H6,x3,o5,D2,x1,o4,D1,C4,D3,x2,C9,n9,w9,D0,H8,H7,C5,C7,o3,C8,x4,o6,B4,n0,C3,C2,C1,H3,w7,n6,B9,w5,n5,B8,B2,C0,w6,B6,m8,v8,B7,H5,H4,B3,v7,n8,B5,w8,n7,J6,J5,K9,J7,K3,J9,J8,K8,K2,K4,K5,K6,K7,A1,A0,z8,M5,M6,A4,G2,u7,E5,x7,L3,t6,Q6,M9,M0,O1,O3,O2,Q7,Q8,I8,J0,I9,J1,J2,N8,x9,N7,E6,E7,E8,y0,a09,F5,y6,Q4,Q5,H9,M7,M8,Option.map_some,Option.map_none,E9,y4,x6,o9,E3,E4,I2,I1,O8,O7,J4,F6,F7,J3,O4,O5,I4,p6,I5,p5,N2,F4,F3,l2,O0,O6,I7,N4,N6,N5,x8,A8,B0,A9,k7,N9,R0,Q9,N0,I6,U8,N1,p7,F1,F2,y5,F0,l0,u9,k9,v6,k8,L2,O9,P0,A2,A3,G4,G3,E2]
 | true=>
  simp
  refine l6 rfl rfl (.inl rfl) (a8z u.scheme) ?_
  simp
  refine c9n (x:=x) (u:=u) (b:=a0x u.scheme) hs ⟨?_,?_,?_,?_⟩ ?_ (fun st' q1 q2=>?_)
  all_goals simp [f5,tx,num]
  simp [q2,y8,G1,z1,F9,z6,s8,y9,G0,l9,B1,H1,H2,j7,p8,p9,l1,z7,q9,l3,F8,y7,q8,q7,D9,E1,a05,a06,Option.getD_some,Option.getD_none,C6,u6,o8,D6,o7,o0,D8,o2,D7,D5,D4,H6,x3,o5,D2,x1,o4,D1,C4,D3,x2,C9,n9,w9,D0,H8,H7,C5,C7,o3,C8,x4,o6,B4,n0,C3,C2,C1,H3,w7,n6,B9,w5,n5,B8,B2,C0,w6,B6,m8,v8,B7,H5,H4,B3,v7,n8,B5,w8,n7,J6,J5,K9,J7,K3,J9,J8,K8,K2,K4,K5,K6,K7,A1,A0,z8,M5,M6,A4,G2,u7,E5,x7,L3,t6,Q6,M9,M0,O1,O3,O2,Q7,Q8,I8,J0,I9,J1,J2,N8,x9,N7,E6,E7,E8,y0,a09,F5,y6,Q4,Q5,H9,M7,M8,Option.map_some,Option.map_none,E9,y4,x6,o9,E3,E4,I2,I1,O8,O7,J4,F6,F7,J3,O4,O5,I4,p6,I5,p5,N2,F4,F3,l2,O0,O6,I7,N4,N6,N5,x8,A8,B0,A9,k7,N9,R0,Q9,N0,I6,U8,N1,p7,F1,F2,y5,F0,l0,u9,k9,v6,k8,L2,O9,P0,A2,A3,G4,G3,E2]
def T4 (x:LPeer):List PV:=[.val (tx x.target.url),.val (num x.target.prio),.val (num x.target.weight),.val (num x.fails),.val (num x.retry),.val (.bool x.gone)]
structure PO (st:St) (l:List LPeer) (i:Nat) (x:LPeer):Prop where
 e0:st.env 0=.val (P8 l)
 e3:st.env 3=.val (num i)
 e4:st.env 4=.ptr 4 0
 m4:st.mem 4=.box (T4 x)
section
variable {Ks:Kx (St→Prop)} {kx:Kx (RV→St→Prop)} {st:St} {l:List LPeer} {i:Nat} {x:LPeer} {b:Bool}
def b7c (x:LPeer):Bool:=decide (x.fails=0) && !decide (x.retry=0)
theorem c92 (h:PO st l i x) (hb:st.env 35=.val (.bool b)) (hK:∀ st',PO st' l i x→st'.env 44=.val (.bool (b || b7c x))→Ks.k st'):EO Tryz.prog ir171_o36 st (Ks:=Ks) (kx:=kx):=by
 unfold ir171_o36
 cases b with
 | true=>
  simp [hb]
  refine hK _ ⟨?_,?_,?_,?_⟩ ?_<;>simp [h.e0,h.e3,h.e4,h.m4]
 | false=>
  by_cases h0:x.fails=0
  · by_cases h1:x.retry=0
    · simp [hb,h.e4,h.m4,T4,num,h0,h1]
      refine hK _ ⟨?_,?_,?_,?_⟩ ?_<;>simp [h.e0,h.e3,h.e4,h.m4,b7c,h0,h1]
    · simp [hb,h.e4,h.m4,T4,num,h0,h1]
      refine hK _ ⟨?_,?_,?_,?_⟩ ?_<;>simp [h.e0,h.e3,h.e4,h.m4,b7c,h0,h1]
  · simp [hb,h.e4,h.m4,T4,num,h0]
    refine hK _ ⟨?_,?_,?_,?_⟩ ?_<;>simp [h.e0,h.e3,h.e4,h.m4,b7c,h0]
def c7e (x:LPeer):Bool:=!decide (0≤x.retry∧x.retry≤1000032) || b7c x
theorem c93 (h:PO st l i x) (hb:st.env 29=.val (.bool b)) (hK:∀ st',PO st' l i x→st'.env 44=.val (.bool (b || c7e x))→Ks.k st'):EO Tryz.prog ir171_o30 st (Ks:=Ks) (kx:=kx):=by
 unfold ir171_o30
 cases b with
 | true=>
  simp [hb]
  refine c92 (l:=l) (i:=i) (x:=x) (b:=true) ⟨?_,?_,?_,?_⟩ ?_ (fun st' q1 q2=>hK st' q1 (by simpa using q2))<;>simp [h.e0,h.e3,h.e4,h.m4]
 | false=>
  simp [hb,h.e4,h.m4,T4,num]
  refine b7 rfl rfl (.inl rfl) (U4 .i64 x.retry 0 1000032) ?_
  simp [hb]
  refine c92 (l:=l) (i:=i) (x:=x) (b:=!decide (0≤x.retry∧x.retry≤1000032)) ⟨?_,?_,?_,?_⟩ ?_ (fun st' q1 q2=>hK st' q1 (by rw [q2];simp [c7e]))<;>simp [h.e0,h.e3,h.e4,h.m4]
def c3u (x:LPeer):Bool:=!decide (0≤x.fails∧x.fails≤1000000) || c7e x
theorem pops24 (h:PO st l i x) (hb:st.env 23=.val (.bool b)) (hK:∀ st',PO st' l i x→st'.env 44=.val (.bool (b || c3u x))→Ks.k st'):EO Tryz.prog ir171_o24 st (Ks:=Ks) (kx:=kx):=by
 unfold ir171_o24
 cases b with
 | true=>
  simp [hb]
  refine c93 (l:=l) (i:=i) (x:=x) (b:=true) ⟨?_,?_,?_,?_⟩ ?_ (fun st' q1 q2=>hK st' q1 (by simpa using q2))<;>simp [h.e0,h.e3,h.e4,h.m4]
 | false=>
  simp [hb,h.e4,h.m4,T4,num]
  refine b7 rfl rfl (.inl rfl) (U4 .i64 x.fails 0 1000000) ?_
  simp [hb]
  refine c93 (l:=l) (i:=i) (x:=x) (b:=!decide (0≤x.fails∧x.fails≤1000000)) ⟨?_,?_,?_,?_⟩ ?_ (fun st' q1 q2=>hK st' q1 (by rw [q2];simp [c3u]))<;>simp [h.e0,h.e3,h.e4,h.m4]
end
theorem b5r (x:LPeer):a4e x=!(!P6 x.target || c3u x):=by
 unfold a4e c3u c7e b7c
 cases P6 x.target<;>cases decide (0≤x.fails∧x.fails≤1000000)<;>cases decide (0≤x.retry∧x.retry≤1000032)<;>by_cases h:x.retry=0<;>simp [h]
theorem b07 {l:List LPeer} {j:Nat} (h:j < l.length):((l.map A6).getD j .nilptr)=A6 l[j]:=by
 rw [a42 _ _ _ (by simpa using h)];simp
theorem c03 {K:Kx (PExit→St→Prop)} {st:St} {l:List LPeer} {i:Nat} {x:LPeer} (hi:i < l.length) (hl:l.length < 1099511627776) (h:PO st l i x) (h5:st.env 5=.val (num 0))
 (hK:∀ st',PO st' l i x→x.target.url∉(l.take i).map (fun p=>p.target.url)→K.k .normal st') (hR:∀ st',st'.env 2=.val (.bool false)→x.target.url∈(l.take i).map (fun p=>p.target.url)→K.k .ret st') :
 EC Tryz.prog ir171_s45 st (K:=K):=by
 unfold ir171_s45
 simp only [y8,G1,z1,F9,z6,s8,y9,G0,l9,B1,H1,H2,j7,p8,p9,l1,z7,q9,l3,F8,y7,q8,q7,D9,E1,a05,a06,Option.getD_some,Option.getD_none,C6,u6,o8,D6,o7,o0,D8,o2,D7,D5,D4,H6,x3,o5,D2,x1,o4,D1,C4,D3,x2,C9,n9,w9,D0,H8,H7,C5,C7,o3,C8,x4,o6,B4,n0,C3,C2,C1,H3,w7,n6,B9,w5,n5,B8,B2,C0,w6,B6,m8,v8,B7,H5,H4,B3,v7,n8,B5,w8,n7,J6,J5,K9,J7,K3,J9,J8,K8,K2,K4,K5,K6,K7,A1,A0,z8,M5,M6,A4,G2,u7,E5,x7,L3,t6,Q6,M9,M0,O1,O3,O2,Q7,Q8,I8,J0,I9,J1,J2,N8,x9,N7,E6,E7,E8,y0,a09,F5,y6,Q4,Q5,H9,M7,M8,Option.map_some,Option.map_none,E9,y4,x6,o9,E3,E4,I2,I1,O8,O7,J4,F6,F7,J3,O4,O5,I4,p6,I5,p5,N2,F4,F3,l2,O0,O6,I7,N4,N6,N5,x8,A8,B0,A9,k7,N9,R0,Q9,N0,I6,U8,N1,p7,F1,F2,y5,F0,l0,u9,k9,v6,k8,L2,O9,P0,A2,A3,G4,G3,E2]
 refine j8 (X:=Nat) (fun j=>⟨u0 [(0,.val (P8 l)),(3,.val (num i)),(4,.ptr 4 0),(5,.val (num j))],u5 [(4,.box (T4 x))]⟩) (fun j=>j≤i∧∀ k (hk:k < j) (hk':k < l.length),l[k].target.url≠x.target.url) (fun j=>i - j) 0 (Le.mk _ _ ?_ ?_) ?_ ?_
 · simp [h.e0,h.e3,h.e4,h5]
 · simp [h.m4]
 · simp
 · rintro j ⟨hj,hne⟩
   unfold ir171_l45
   simp [num,P8,T4]
   refine f7 (fun h1=>?_) (fun h1=>?_)
   · have hjl:j < l.length:=by omega
     have e:=b07 hjl
     rw [List.getD_eq_getElem?_getD] at e
     simp [num,P8,T4,e,h1,hjl,A6,tx,L7]
     by_cases hu:l[j].target.url=x.target.url
     · refine f7 (fun _=>?_) (fun h=>absurd hu h)
       simp
       refine hR _ (by simp) ?_
       rw [List.mem_map]
       exact ⟨l[j],by rw [List.mem_take_iff_getElem];exact ⟨j,by omega,rfl⟩,hu⟩
     · refine f7 (fun h=>absurd h hu) (fun _=>?_)
       simp
       refine LoopNext.mk (j+1) ⟨by omega,fun k hk hk'=>?_⟩ (by omega) (Le.mk _ _ ?_ ?_)
       · by_cases e:k=j
         · subst e;exact hu
         · exact hne k (by omega) hk'
       · simp [num,P8];rw [wrap_i64 (by omega) (by omega)]
       · simp [T4,num,tx]
   · have e:j=i:=by omega
     simp
     refine hK _ ⟨?_,?_,?_,?_⟩ ?_
     · simp [P8]
     · simp [num]
     · simp
     · simp [T4,num]
     · intro hm
       rw [List.mem_map] at hm
       obtain ⟨p,hp,hpu⟩:=hm
       rw [List.mem_take_iff_getElem] at hp
       obtain ⟨k,hk,rfl⟩:=hp
       exact hne k (by omega) (by omega) hpu
theorem c_l07OK (l:List LPeer) (hl:l.length < 1099511627776) (hs:∀ p∈l,p.target.url.length < 1099511627776):d8 Tryz.prog 171 [.val (P8 l)] (.ret (.val (.bool (X7 l))) []) []:=by
 refine f8 mixed ok171 rfl (fun _=>rfl) ?_
 unfold ir171
 rw [b6]
 by_cases h4:4 < l.length
 · have h4':(4:Int) < l.length:=by omega
   have e:X7 l=false:=by
    unfold X7
    rw [decide_eq_false (by omega)];rfl
   simp [d9,i6,j9,b9,d7,P8,h4',e]
 · have h4':¬ (4:Int) < l.length:=by omega
   have e:X7 l=(l.all a4e && T8 [] l):=by
    unfold X7
    rw [decide_eq_true (by omega)];rfl
   rw [e]
   simp [d9,i6,j9,b9,d7,P8,h4']
   refine j8 (X:=Nat) (fun i=>⟨u0 [(0,.val (P8 l)),(3,.val (num i))],u5 []⟩) (fun i=>i≤l.length∧(l.take i).all a4e=true∧T8 [] (l.take i)=true) (fun i=>l.length - i) 0 (Le.mk _ _ ?_ ?_) ?_ ?_
   · simp [upd,P8,num]
   · simp
   · simp [T8]
   · rintro i ⟨hi,ha,hu⟩
     unfold ir171_l9
     simp [num,P8]
     refine f7 (fun h1=>?_) (fun h1=>?_)
     · have e1:=b07 h1
       rw [List.getD_eq_getElem?_getD] at e1
       simp [num,P8,h1,e1,A6,tx]
       unfold ir171_s19
       simp [num,P8,i7,tx]
       refine b7 rfl rfl (.inl rfl) (b3q l[i].target (hs _ (List.getElem_mem h1))) ?_
       simp
       refine pops24 (l:=l) (i:=i) (x:=l[i]) (b:=!P6 l[i].target) ⟨?_,?_,?_,?_⟩ ?_ (fun st' q1 q2=>?_)
       · simp [P8]
       · simp [num]
       · simp
       · simp [T4,num,tx]
       · simp
       · have hpk:=b5r l[i]
         simp only [y8,G1,z1,F9,z6,s8,y9,G0,l9,B1,H1,H2,j7,p8,p9,l1,z7,q9,l3,F8,y7,q8,q7,D9,E1,a05,a06,Option.getD_some,Option.getD_none,C6,u6,o8,D6,o7,o0,D8,o2,D7,D5,D4,H6,x3,o5,D2,x1,o4,D1,C4,D3,x2,C9,n9,w9,D0,H8,H7,C5,C7,o3,C8,x4,o6,B4,n0,C3,C2,C1,H3,w7,n6,B9,w5,n5,B8,B2,C0,w6,B6,m8,v8,B7,H5,H4,B3,v7,n8,B5,w8,n7,J6,J5,K9,J7,K3,J9,J8,K8,K2,K4,K5,K6,K7,A1,A0,z8,M5,M6,A4,G2,u7,E5,x7,L3,t6,Q6,M9,M0,O1,O3,O2,Q7,Q8,I8,J0,I9,J1,J2,N8,x9,N7,E6,E7,E8,y0,a09,F5,y6,Q4,Q5,H9,M7,M8,Option.map_some,Option.map_none,E9,y4,x6,o9,E3,E4,I2,I1,O8,O7,J4,F6,F7,J3,O4,O5,I4,p6,I5,p5,N2,F4,F3,l2,O0,O6,I7,N4,N6,N5,x8,A8,B0,A9,k7,N9,R0,Q9,N0,I6,U8,N1,p7,F1,F2,y5,F0,l0,u9,k9,v6,k8,L2,O9,P0,A2,A3,G4,G3,E2,q2]
         cases hb:(!P6 l[i].target || c3u l[i]) with
         | true=>
          rw [hb] at hpk
          have:l.all a4e=false:=by rw [List.all_eq_false];exact ⟨l[i],List.getElem_mem h1,by rw [hpk];simp⟩
          rw [this]
          simp
         | false=>
          rw [hb] at hpk
          refine f7 (fun h=>by cases h) (fun _=>?_)
          simp only [y8,G1,z1,F9,z6,s8,y9,G0,l9,B1,H1,H2,j7,p8,p9,l1,z7,q9,l3,F8,y7,q8,q7,D9,E1,a05,a06,Option.getD_some,Option.getD_none,C6,u6,o8,D6,o7,o0,D8,o2,D7,D5,D4,H6,x3,o5,D2,x1,o4,D1,C4,D3,x2,C9,n9,w9,D0,H8,H7,C5,C7,o3,C8,x4,o6,B4,n0,C3,C2,C1,H3,w7,n6,B9,w5,n5,B8,B2,C0,w6,B6,m8,v8,B7,H5,H4,B3,v7,n8,B5,w8,n7,J6,J5,K9,J7,K3,J9,J8,K8,K2,K4,K5,K6,K7,A1,A0,z8,M5,M6,A4,G2,u7,E5,x7,L3,t6,Q6,M9,M0,O1,O3,O2,Q7,Q8,I8,J0,I9,J1,J2,N8,x9,N7,E6,E7,E8,y0,a09,F5,y6,Q4,Q5,H9,M7,M8,Option.map_some,Option.map_none,E9,y4,x6,o9,E3,E4,I2,I1,O8,O7,J4,F6,F7,J3,O4,O5,I4,p6,I5,p5,N2,F4,F3,l2,O0,O6,I7,N4,N6,N5,x8,A8,B0,A9,k7,N9,R0,Q9,N0,I6,U8,N1,p7,F1,F2,y5,F0,l0,u9,k9,v6,k8,L2,O9,P0,A2,A3,G4,G3,E2]
          refine c03 (x:=l[i]) h1 hl ⟨?_,?_,?_,?_⟩ ?_ (fun st'' r1 r2=>?_) (fun st'' r1 r2=>?_)
          · simp [q1.e0]
          · simp [q1.e3]
          · simp [q1.e4]
          · simp [q1.m4]
          · simp [num]
          · simp [r1.e3,num]
            refine LoopNext.mk (i+1) ⟨by omega,?_,?_⟩ (by omega) (Le.mk _ _ ?_ ?_)
            · rw [S4 _ _ _ h1,ha,hpk];rfl
            · rw [a68 l i h1,hu,decide_eq_true r2];rfl
            · simp [r1.e0,num,P8];rw [wrap_i64 (by omega) (by omega)]
            · simp
          · have:T8 [] l=false:=a3v l (i+1) (by rw [a68 l i h1,hu,decide_eq_false (fun h=>h r2)];rfl)
            rw [this]
            simp [r1]
     · have e1:i=l.length:=by omega
       subst e1
       rw [List.take_length] at ha hu
       rw [ha,hu]
       simp
end Go.Proofs
end
section
namespace Go.Proofs
open Go.PW Go.KP
variable [GF]
theorem b3r (c:UInt8):d8 Tryz.prog 234 [.val (rvb c)] (.ret (.val (.bool (a10 c))) []) []:=by
 refine f8 mixed ok234 rfl (fun _=>rfl) ?_
 unfold ir234
 rw [b6]
 have e1:((97:Int)≤c.toNat)↔97≤c.toNat:=by omega
 have e2:((c.toNat:Int)≤122)↔c.toNat≤122:=by omega
 have e3:((65:Int)≤c.toNat)↔65≤c.toNat:=by omega
 have e4:((c.toNat:Int)≤90)↔c.toNat≤90:=by omega
 have e5:((c.toNat:Int)=95)↔c.toNat=95:=by omega
 by_cases h1:97≤c.toNat<;>by_cases h2:c.toNat≤122<;>by_cases h3:65≤c.toNat<;>by_cases h4:c.toNat≤90<;>by_cases h5:c.toNat=95<;>first | (exfalso;omega) | simp [d9,i6,j9,b9,d7,rvb,a10,P9,isUp,e1,e2,e3,e4,e5,h1,h2,h3,h4,h5]
theorem a5z {c:UInt8} (h:a10 c=true):a3w c=true:=by simp [a3w,h]
theorem b2v (t:Tx) (ht:t.length < 1099511627776):d8 Tryz.prog 173 [.val (tx t)] (.ret (.val (.bool (a1h t))) []) []:=by
 refine f8 mixed ok173 rfl (fun _=>rfl) ?_
 unfold ir173
 rw [b6]
 by_cases h1:t.length < 1
 · have:a1h t=false:=by unfold a1h;rw [decide_eq_false (by omega)];rfl
   have h1':(t.length:Int) < 1:=by omega
   simp [d9,i6,j9,b9,d7,tx,b8,h1',this]
 by_cases h2:12 < t.length
 · have h1':¬ (t.length:Int) < 1:=by omega
   have h2':(12:Int) < t.length:=by omega
   have:a1h t=false:=by unfold a1h;rw [decide_eq_false (by omega)];rfl
   simp [d9,i6,j9,b9,d7,tx,b8,h1',h2',this]
 have h1':¬ (t.length:Int) < 1:=by omega
 have h2':¬ (12:Int) < t.length:=by omega
 have h0:0 < t.length:=by omega
 have hw:a1h t=Y1 a10 a3w t:=by unfold a1h;rw [decide_eq_true (by omega)];rfl
 simp [d9,i6,j9,b9,d7,tx,b8,h1',h2',j5,h0]
 refine b7 rfl rfl (.inl rfl) (b3r t[0]) ?_
 cases hl:a10 t[0] with
 | false=>
  have:a1h t=false:=by rw [hw];exact a2s t 0 h0 (by rw [if_pos rfl];exact hl)
  simp [this]
 | true=>
  have hst:=a3p (p:=a10) (q:=a3w) (fun _ h=>a5z h) t 0 h0
  simp
  refine j8 (X:=Nat) (fun i=>⟨u0 [(0,.val (.str (bs t))),(3,.val (.int .i64 i))],u5 []⟩) (fun i=>1≤i∧i≤t.length∧Y1 a10 a3w (t.take i)=true) (fun i=>t.length - i) 1 (Le.mk _ _ ?_ ?_) ?_ ?_
  · simp [upd]
  · simp
  · refine ⟨Nat.le_refl _,h0,?_⟩
    rw [hst,if_pos rfl,hl];simp [Y1]
  · rintro i ⟨hi1,hi,hall⟩
    have hi0:i≠0:=by omega
    simp [b8,j5]
    refine f7 (fun h3=>?_) (fun h3=>?_)
    · have hstep:=a3p (p:=a10) (q:=a3w) (fun _ h=>a5z h) t i h3
      rw [hall,Bool.true_and,if_neg hi0] at hstep
      have H0:=a2s (p:=a10) (q:=a3w) t i h3
      rw [if_neg hi0] at H0
      simp [b8,j5,h3]
      refine b7 rfl rfl (.inl rfl) (b3r t[i]) ?_
      cases hlt:a10 t[i] with
      | true=>
       simp
       refine LoopNext.mk (i+1) ⟨by omega,by omega,by rw [hstep];exact a5z hlt⟩ (by omega) (Le.mk _ _ ?_ ?_)
       · simp;exact wrap_i64 (by omega) (by omega)
       · simp
      | false=>
       simp [b8,j5,h3]
       refine b7 rfl rfl (.inl rfl) (a5p t[i]) ?_
       cases hd:P7 t[i] with
       | true=>
        simp
        refine LoopNext.mk (i+1) ⟨by omega,by omega,by rw [hstep];simp [a3w,hd]⟩ (by omega) (Le.mk _ _ ?_ ?_)
        · simp;exact wrap_i64 (by omega) (by omega)
        · simp
       | false=>
        have:a1h t=false:=by rw [hw];exact H0 (by simp [a3w,hd,hlt])
        simp [this]
    · have e:i=t.length:=by omega
      subst e
      rw [List.take_length] at hall
      simp [hw,hall]
end Go.Proofs
end
