/- Ca: merged out of KSa, KSb, KSc, KSd, KSe, KSr. -/
import Derived.Test.YtapjdgcfakhpaaaGreatDoorBa
import Derived.Test.YtapjdgcfakhpaaaGreatDoorAc
set_option linter.unusedSectionVars false
set_option linter.unusedSimpArgs false
set_option linter.unusedVariables false
set_option maxRecDepth 100000
section
namespace Go.Proofs
open Go.PW Go.KP
attribute [local simp] RV.cells RV.one PV.cells PV.solid PV.one G1 i6 L8 K7 RV.ofCells elems PV.killL
theorem mixed:Tryz.prog.follows .mixedOrders=true:=by kernel_rfl
variable [GF]
theorem U0 (k:IntKind) (a lo hi:Int):d8 Tryz.prog 108 [.val (.int k a),.val (.int k lo),.val (.int k hi)] (.ret (.val (.bool (decide (lo≤a∧a≤hi)))) []) []:=by
 refine f6 mixed ok108 rfl (fun _=>rfl) ?_
 unfold ir108
 rw [b6]
 by_cases h:lo≤a
 · simp [d9,f9,j8,b8,d7,h]
 · simp [d9,f9,j8,b8,d7,h]
theorem a11 (t:Tx) (c:UInt8) (ht:t.length < 1099511627776):d8 Tryz.prog 265 [.val (tx t),.val (rvb c)] (.ret (.val (num (M8 t c))) []) []:=by
 refine f6 mixed ok265 rfl (fun _=>rfl) ?_
 unfold ir265
 rw [b6]
 simp only [x9,F5,y4,F3,y5,q7,y0,F4,l6,A5,G6,G7,j6,p5,p6,l0,y6,p9,l2,F2,x8,p8,p7,D3,D4,a0u,a0v,Option.getD_some,Option.getD_none,C0,t8,o5,D0,o4,n7,D2,n8,D1,C9,C8,H1,w6,o2,C6,v8,o1,C5,B8,C7,w5,C3,n6,v7,C4,H3,H2,B9,C1,n9,C2,w7,o3,A8,l8,B7,B6,B5,G8,u9,m8,B3,u6,l9,B2,A6,B4,u7,B0,l7,u5,B1,H0,G9,A7,u4,n5,A9,v6,n0,J1,J0,K4,J2,J6,J4,J3,K3,J5,J7,J8,J9,K2,y9,y8,y7,M0,M1,z7,F6,u0,D8,x1,K6,q8,Q1,M4,L6,N6,N8,N7,Q2,Q3,I3,I5,I4,I6,I7,N3,x3,N2,D9,E1,E2,x4,a0x,E9,x7,P9,Q0,H4,M2,M3,Option.map_some,Option.map_none,E3,x5,w9,o6,D6,D7,H7,H6,O3,O2,I9,F0,F1,I8,N9,O0,H9,o8,I0,o7,M7,E8,E7,l1,N5,O1,I2,M9,N1,N0,x2,A2,A4,A3,k6,N4,Q5,Q4,M5,I1,U3,M6,o9,E5,E6,x6,E4,k9,u2,k8,u3,k7,K5,O4,O5,z1,z6,F8,F7,D5,d9,f9,j8,b8,d7,tx,rvb,num]
 refine j7 (X:=Nat) (fun i=>⟨t6 [(0,.val (.str (bs t))),(1,.val (.int .u8 c.toNat)),(5,.val (.int .i64 i))],u1 []⟩) (fun i=>i≤t.length∧∀ k,k < i→t.getD k 0≠c) (fun i=>t.length - i) 0 (Le.mk _ _ ?_ ?_) ?_ ?_
 · simp [upd]
 · simp
 · simp
 · rintro i ⟨hi,hne⟩
   simp [b9,j4,u8_eq]
   refine f7 (fun h1=>?_) (fun h1=>?_)
   · simp [b9,j4,u8_eq,h1]
     refine f7 (fun h2=>?_) (fun h2=>?_)
     · simp
       rw [c1f t c i hi hne (.inr (by rw [a4t _ _ _ h1];exact h2))];rfl
     · simp
       refine LoopNext.mk (i+1) ⟨by omega,fun k hk=>?_⟩ (by omega) (Le.mk _ _ ?_ ?_)
       · by_cases e:k=i
         · subst e;simpa [List.getElem?_eq_getElem h1] using h2
         · simpa using hne k (by omega)
       · simp [z7,u0];rw [wrap_i64 (by omega) (by omega)]
       · simp
   · have e:i=t.length:=by omega
     simp [b9]
     rw [c1f t c i hi hne (.inl e),e];rfl
theorem a8q (t:Tx):d8 Tryz.prog 256 [.val (tx t)] (.ret (.val (.bool (a0o t))) []) []:=by
 refine f6 mixed ok256 rfl (fun _=>rfl) ?_
 unfold ir256
 rw [b6]
 have e1:(⟨#[104,116,116,112]⟩:ByteArray)=bs a7e:=rfl
 have e2:(⟨#[104,116,116,112,115]⟩:ByteArray)=bs a91:=rfl
 by_cases h:t=a7e
 · simp [d9,f9,j8,b8,d7,tx,e1,e2,L2,a0o,h]
 · by_cases h':t=a91
   · subst h'
     simp [d9,f9,j8,b8,d7,tx,e1,e2,L2,a0o,show ¬ a91=a7e by decide]
   · simp [d9,f9,j8,b8,d7,tx,e1,e2,L2,a0o,h,h']
theorem b56 (t:Tx):d8 Tryz.prog 269 [.val (tx t)] (.ret (.val (num (a0s t))) []) []:=by
 refine f6 mixed ok269 rfl (fun _=>rfl) ?_
 unfold ir269
 rw [b6]
 have e1:(⟨#[104,116,116,112]⟩:ByteArray)=bs a7e:=rfl
 by_cases h:t=a7e
 · simp [d9,f9,j8,b8,d7,tx,e1,L2,a0s,h,num]
 · simp [d9,f9,j8,b8,d7,tx,e1,L2,a0s,h,num]
theorem a5c (c:UInt8):d8 Tryz.prog 235 [.val (rvb c)] (.ret (.val (.bool (P2 c))) []) []:=by
 refine f6 mixed ok235 rfl (fun _=>rfl) ?_
 unfold ir235
 rw [b6]
 have e1:((48:Int)≤c.toNat)↔48≤c.toNat:=by omega
 have e2:((c.toNat:Int)≤57)↔c.toNat≤57:=by omega
 by_cases h:48≤c.toNat
 · simp [d9,f9,j8,b8,d7,rvb,P2,h,e1,e2]
 · simp [d9,f9,j8,b8,d7,rvb,P2,h,e1,e2]
theorem c39 {c:UInt8} (h1:65≤c.toNat) (h2:c.toNat≤90):(c.toNat:Int)+32=((c+32).toNat:Int):=by
 rw [UInt8.toNat_add]
 simp
 omega
theorem b58 (t:Tx) (ht:t.length < 1099511627776):d8 Tryz.prog 266 [.val (tx t)] (.ret (.val (tx (R4 t))) []) []:=by
 refine f6 mixed ok266 rfl (fun _=>rfl) ?_
 unfold ir266
 rw [b6]
 simp only [x9,F5,y4,F3,y5,q7,y0,F4,l6,A5,G6,G7,j6,p5,p6,l0,y6,p9,l2,F2,x8,p8,p7,D3,D4,a0u,a0v,Option.getD_some,Option.getD_none,C0,t8,o5,D0,o4,n7,D2,n8,D1,C9,C8,H1,w6,o2,C6,v8,o1,C5,B8,C7,w5,C3,n6,v7,C4,H3,H2,B9,C1,n9,C2,w7,o3,A8,l8,B7,B6,B5,G8,u9,m8,B3,u6,l9,B2,A6,B4,u7,B0,l7,u5,B1,H0,G9,A7,u4,n5,A9,v6,n0,J1,J0,K4,J2,J6,J4,J3,K3,J5,J7,J8,J9,K2,y9,y8,y7,M0,M1,z7,F6,u0,D8,x1,K6,q8,Q1,M4,L6,N6,N8,N7,Q2,Q3,I3,I5,I4,I6,I7,N3,x3,N2,D9,E1,E2,x4,a0x,E9,x7,P9,Q0,H4,M2,M3,Option.map_some,Option.map_none,E3,x5,w9,o6,D6,D7,H7,H6,O3,O2,I9,F0,F1,I8,N9,O0,H9,o8,I0,o7,M7,E8,E7,l1,N5,O1,I2,M9,N1,N0,x2,A2,A4,A3,k6,N4,Q5,Q4,M5,I1,U3,M6,o9,E5,E6,x6,E4,k9,u2,k8,u3,k7,K5,O4,O5,z1,z6,F8,F7,D5,d9,f9,j8,b8,d7,tx,elems]
 refine j7 (X:=Nat) (fun i=>⟨t6 [(0,.val (.str (bs t))),(3,.own 6),(4,.val (.int .i64 i))],u1 [(6,.row 5 1 ((R4 (t.take i)).map rvb))]⟩) (fun i=>i≤t.length) (fun i=>t.length - i) 0 (Le.mk _ _ ?_ ?_) ?_ ?_
 · simp [upd,PV.kill]
 · simp [upd,R4]
 · simp
 · rintro i hi
   simp [b9,j4,elems]
   refine f7 (fun h1=>?_) (fun h1=>?_)
   · have hnext:∀ st':St,st'.env 0=.val (.str (bs t))→st'.env 3=.own 6→st'.env 4=.val (.int .i64 ((i:Int)+1))→st'.mem 6=.row 5 1 ((R4 (t.take i)).map rvb++[rvb (c1b (t.getD i 0))]) →
      ∃ x',x'≤t.length∧t.length - x' < t.length - i∧Le st' ⟨t6 [(0,.val (.str (bs t))),(3,.own 6),(4,.val (.int .i64 (x':Int)))],u1 [(6,.row 5 1 ((R4 (t.take x')).map rvb))]⟩:=fun st' q1 q2 q3 q4=>by
      refine ⟨i+1,by omega,by omega,Le.mk _ _ ?_ ?_⟩
      · simp [q1,q2,q3]
      · simp only [List.mem_singleton,forall_eq,q4]
        rw [b7g t i 0 h1]
        simp [R4]
     have hlen:(R4 (t.take i)).length=i:=by simp [R4];omega
     have e1:((65:Int)≤(t[i].toNat:Int))↔65≤t[i].toNat:=by omega
     have e2:((t[i].toNat:Int)≤90)↔t[i].toNat≤90:=by omega
     by_cases h2:65≤t[i].toNat
     · by_cases h3:t[i].toNat≤90
       · simp [b9,j4,h1,e1,e2,h2,h3,hlen]
         refine ⟨by omega,by omega,hnext _ ?_ ?_ ?_ ?_⟩
         · simp [z7]
         · simp [z7]
         · simp [z7];exact wrap_i64 (by omega) (by omega)
         · rw [a4t _ _ _ h1]
           simp [z7,rvb,c1b,h2,h3]
           rw [c39 h2 h3]
           have:=(t[i]+32).toNat_lt
           rw [b3w (by omega) (by omega)]
           omega
       · simp [b9,j4,h1,e1,e2,h2,h3,hlen]
         refine ⟨by omega,by omega,hnext _ ?_ ?_ ?_ ?_⟩
         · simp [z7]
         · simp [z7]
         · simp [z7];exact wrap_i64 (by omega) (by omega)
         · rw [a4t _ _ _ h1]
           simp [z7,rvb,c1b,h2,h3]
     · simp [b9,j4,h1,e1,e2,h2,hlen]
       refine ⟨by omega,by omega,hnext _ ?_ ?_ ?_ ?_⟩
       · simp [z7]
       · simp [z7]
       · simp [z7];exact wrap_i64 (by omega) (by omega)
       · rw [a4t _ _ _ h1]
         simp [z7,rvb,c1b,h2]
   · have e:i=t.length:=by omega
     subst e
     have e1:(R4 t).map rvb=(R4 (t.take t.length)).map rvb:=by simp
     simp [b9]
     exact ⟨fun x _=>rfl,by rw [c2y];rfl⟩
theorem a9d (t wo:Tx) (ht:t.length < 1099511627776) (hw:wo.length < 1099511627776):d8 Tryz.prog 313 [.val (tx t),.val (tx wo)] (.ret (.val (.bool (X7 t wo))) []) []:=by
 refine f6 mixed ok313 rfl (fun _=>rfl) ?_
 unfold ir313
 rw [b6]
 simp only [x9,F5,y4,F3,y5,q7,y0,F4,l6,A5,G6,G7,j6,p5,p6,l0,y6,p9,l2,F2,x8,p8,p7,D3,D4,a0u,a0v,Option.getD_some,Option.getD_none,C0,t8,o5,D0,o4,n7,D2,n8,D1,C9,C8,H1,w6,o2,C6,v8,o1,C5,B8,C7,w5,C3,n6,v7,C4,H3,H2,B9,C1,n9,C2,w7,o3,A8,l8,B7,B6,B5,G8,u9,m8,B3,u6,l9,B2,A6,B4,u7,B0,l7,u5,B1,H0,G9,A7,u4,n5,A9,v6,n0,J1,J0,K4,J2,J6,J4,J3,K3,J5,J7,J8,J9,K2,y9,y8,y7,M0,M1,z7,F6,u0,D8,x1,K6,q8,Q1,M4,L6,N6,N8,N7,Q2,Q3,I3,I5,I4,I6,I7,N3,x3,N2,D9,E1,E2,x4,a0x,E9,x7,P9,Q0,H4,M2,M3,Option.map_some,Option.map_none,E3,x5,w9,o6,D6,D7,H7,H6,O3,O2,I9,F0,F1,I8,N9,O0,H9,o8,I0,o7,M7,E8,E7,l1,N5,O1,I2,M9,N1,N0,x2,A2,A4,A3,k6,N4,Q5,Q4,M5,I1,U3,M6,o9,E5,E6,x6,E4,k9,u2,k8,u3,k7,K5,O4,O5,z1,z6,F8,F7,D5,d9,f9,j8,b8,d7,tx]
 refine j7 (X:=Nat) (fun i=>⟨t6 [(0,.val (.str (bs t))),(1,.val (.str (bs wo))),(5,.val (.int .i64 i))],u1 []⟩) (fun i=>i≤t.length∧X7 (t.take i) wo=true) (fun i=>t.length - i) 0 (Le.mk _ _ ?_ ?_) ?_ ?_
 · simp [upd]
 · simp
 · simp [X7]
 · rintro i ⟨hi,hall⟩
   simp [b9,j4]
   refine f7 (fun h1=>?_) (fun h1=>?_)
   · have hstep:X7 (t.take (i+1)) wo=(decide (33≤t[i].toNat∧t[i].toNat≤126) && !decide (t[i]∈wo)):=by
      unfold X7 at hall ⊢
      rw [R9 t _ i h1,hall,Bool.true_and]
     have G5:(decide (33≤t[i].toNat∧t[i].toNat≤126) && !decide (t[i]∈wo))=false→X7 t wo=false:=fun hb=>by
      unfold X7
      rw [List.all_eq_false]
      exact ⟨t[i],List.getElem_mem h1,by simpa using hb⟩
     have e1:((t[i].toNat:Int) < 33)↔t[i].toNat < 33:=by omega
     have e2:((126:Int) < (t[i].toNat:Int))↔126 < t[i].toNat:=by omega
     by_cases h2:33≤t[i].toNat
     · have h2':¬ t[i].toNat < 33:=by omega
       by_cases h3:126 < t[i].toNat
       · simp [b9,j4,h1,e1,e2,h2,h2',h3]
         exact G5 (by simp;omega)
       · simp [b9,j4,h1,e1,e2,h2,h2',h3]
         refine b7 rfl rfl (.inl rfl) (a11 wo t[i] hw) ?_
         by_cases h4:t[i]∈wo
         · simp [num,b9,W3,h4]
           exact G5 (by simp [h4])
         · simp [num,b9,W3,h4]
           refine LoopNext.mk (i+1) ⟨by omega,by rw [hstep];simp [h4];omega⟩ (by omega) (Le.mk _ _ ?_ ?_)
           · simp [z7];exact wrap_i64 (by omega) (by omega)
           · simp
     · have h2':t[i].toNat < 33:=by omega
       simp [b9,j4,h1,e1,e2,h2,h2']
       exact G5 (by simp;omega)
   · have e:i=t.length:=by omega
     subst e
     simp [b9]
     simpa using hall.symm
theorem c2q (t:Tx) (ht:t.length < 1099511627776):d8 Tryz.prog 312 [.val (tx t)] (.ret (.val (.bool (V8 t))) []) []:=by
 refine f6 mixed ok312 rfl (fun _=>rfl) ?_
 unfold ir312
 rw [b6]
 simp [d9,f9,j8,b8,d7,tx,b9]
 refine b7 rfl rfl (.inl rfl) (U0 .i64 t.length 1 12) ?_
 by_cases hlen:1≤t.length∧t.length≤12
 rotate_left
 · rw [show decide ((1:Int)≤t.length∧(t.length:Int)≤12)=false from decide_eq_false (by omega)]
   simp
   simp [V8,hlen]
 rw [show decide ((1:Int)≤t.length∧(t.length:Int)≤12)=true from decide_eq_true (by omega)]
 simp
 refine j7 (X:=Nat) (fun i=>⟨t6 [(0,.val (.str (bs t))),(3,.val (.int .i64 i))],u1 []⟩) (fun i=>i≤t.length∧a4l (t.take i)=true) (fun i=>t.length - i) 0 (Le.mk _ _ ?_ ?_) ?_ ?_
 · simp [upd]
 · simp
 · simp [a4l]
 · rintro i ⟨hi,hall⟩
   simp [b9,j4]
   refine f7 (fun h1=>?_) (fun h1=>?_)
   · have hstep:=b2w t i h1
     rw [hall,Bool.true_and] at hstep
     have G5:=b0u t i h1
     have hls:V8 t=a4l t:=by simp [V8,hlen]
     have e1:((97:Int)≤(t[i].toNat:Int))↔97≤t[i].toNat:=by omega
     have e2:((t[i].toNat:Int)≤122)↔t[i].toNat≤122:=by omega
     have hgood:(if i=0 then P4 t[i] else W5 t[i])=true→∀ st':St,st'.env 0=.val (.str (bs t))→st'.env 3=.val (.int .i64 (IntKind.i64.wrap ((i:Int)+1))) →
      ∃ x',(x'≤t.length∧a4l (t.take x')=true)∧t.length - x' < t.length - i∧Le st' ⟨t6 [(0,.val (.str (bs t))),(3,.val (.int .i64 (x':Int)))],u1 []⟩:=fun hg st' q1 q2=>by
      refine ⟨i+1,⟨by omega,by rw [hstep,hg]⟩,by omega,Le.mk _ _ ?_ ?_⟩
      · simp [q1,q2];exact wrap_i64 (by omega) (by omega)
      · simp
     by_cases hs:97≤t[i].toNat∧t[i].toNat≤122
     · simp [b9,j4,h1,e1,e2,hs.1,hs.2]
       refine hgood ?_ _ ?_ ?_
       · simp [P4,W5,hs]
       · simp
       · simp
     · by_cases h2:97≤t[i].toNat
       · have h3:¬ t[i].toNat≤122:=fun h=>hs ⟨h2,h⟩
         have hlow:P4 t[i]=false:=by simp [P4];omega
         by_cases h0:i=0
         · simp [b9,j4,h1,e1,e2,h2,h3,(eq_true h0:(i=0)=True)]
           exact hls.trans (G5 (by rw [if_pos h0];exact hlow))
         · simp [b9,j4,h1,e1,e2,h2,h3,h0]
           refine b7 rfl rfl (.inl rfl) (a5c t[i]) ?_
           cases hd:P2 t[i] with
           | true=>
            simp [h0]
            refine hgood ?_ _ ?_ ?_
            · simp [h0,W5,hd]
            · simp
            · simp
           | false=>
            have e3:((t[i].toNat:Int)=45)↔t[i].toNat=45:=by omega
            have e4:((t[i].toNat:Int)=43)↔t[i].toNat=43:=by omega
            have e5:((t[i].toNat:Int)=46)↔t[i].toNat=46:=by omega
            by_cases h4:t[i].toNat=45
            · simp [b9,j4,h1,h0,e3,e4,e5,h4]
              refine hgood ?_ _ ?_ ?_
              · simp [h0,W5,h4]
              · simp
              · simp
            · by_cases h5:t[i].toNat=43
              · simp [b9,j4,h1,h0,e3,e4,e5,h4,h5]
                refine hgood ?_ _ ?_ ?_
                · simp [h0,W5,h5]
                · simp
                · simp
              · by_cases h6:t[i].toNat=46
                · simp [b9,j4,h1,h0,e3,e4,e5,h4,h5,h6]
                  refine hgood ?_ _ ?_ ?_
                  · simp [h0,W5,h6]
                  · simp
                  · simp
                · simp [b9,j4,h1,h0,e3,e4,e5,h4,h5,h6]
                  exact hls.trans (G5 (by rw [if_neg h0];simp [W5,hlow,hd,h4,h5,h6]))
       · skip
         have hlow:P4 t[i]=false:=by simp [P4];omega
         by_cases h0:i=0
         · simp [b9,j4,h1,e1,e2,h2,(eq_true h0:(i=0)=True)]
           exact hls.trans (G5 (by rw [if_pos h0];exact hlow))
         · simp [b9,j4,h1,e1,e2,h2,h0]
           refine b7 rfl rfl (.inl rfl) (a5c t[i]) ?_
           cases hd:P2 t[i] with
           | true=>
            simp [h0]
            refine hgood ?_ _ ?_ ?_
            · simp [h0,W5,hd]
            · simp
            · simp
           | false=>
            have e3:((t[i].toNat:Int)=45)↔t[i].toNat=45:=by omega
            have e4:((t[i].toNat:Int)=43)↔t[i].toNat=43:=by omega
            have e5:((t[i].toNat:Int)=46)↔t[i].toNat=46:=by omega
            by_cases h4:t[i].toNat=45
            · simp [b9,j4,h1,h0,e3,e4,e5,h4]
              refine hgood ?_ _ ?_ ?_
              · simp [h0,W5,h4]
              · simp
              · simp
            · by_cases h5:t[i].toNat=43
              · simp [b9,j4,h1,h0,e3,e4,e5,h4,h5]
                refine hgood ?_ _ ?_ ?_
                · simp [h0,W5,h5]
                · simp
                · simp
              · by_cases h6:t[i].toNat=46
                · simp [b9,j4,h1,h0,e3,e4,e5,h4,h5,h6]
                  refine hgood ?_ _ ?_ ?_
                  · simp [h0,W5,h6]
                  · simp
                  · simp
                · simp [b9,j4,h1,h0,e3,e4,e5,h4,h5,h6]
                  exact hls.trans (G5 (by rw [if_neg h0];simp [W5,hlow,hd,h4,h5,h6]))
   · have e:i=t.length:=by omega
     subst e
     simp [b9]
     simp [V8,hlen]
     simpa using hall.symm
theorem b5c (last:Bool) (t:Tx) (i:Nat) (h:i < t.length):U2 last (t.drop i)=if !(P4 t[i] || P2 t[i]) && (last || !decide (t[i].toNat=45∨t[i].toNat=46)) then false else U2 (!(P4 t[i] || P2 t[i])) (t.drop (i+1)):=by
 rw [List.drop_eq_getElem_cons h];rfl
theorem c87 (t:Tx) (ht:t.length < 1099511627776):d8 Tryz.prog 314 [.val (tx t)] (.ret (.val (.bool (a17 t))) []) []:=by
 refine f6 mixed ok314 rfl (fun _=>rfl) ?_
 unfold ir314
 rw [b6]
 simp [d9,f9,j8,b8,d7,tx]
 refine j7 (X:=Nat×Bool) (fun x=>⟨t6 [(0,.val (.str (bs t))),(3,.val (.bool x.2)),(4,.val (.int .i64 x.1))],u1 []⟩) (fun x=>x.1≤t.length∧a17 t=U2 x.2 (t.drop x.1)) (fun x=>t.length - x.1) (0,true) (Le.mk _ _ ?_ ?_) ?_ ?_
 · simp [upd]
 · simp
 · simp [a17]
 · rintro ⟨i,last⟩ ⟨hi,hinv⟩
   simp only at hi hinv
   simp [b9,j4]
   refine f7 (fun h1=>?_) (fun h1=>?_)
   · rw [b5c last t i h1] at hinv
     have e1:((97:Int)≤(t[i].toNat:Int))↔97≤t[i].toNat:=by omega
     have e2:((t[i].toNat:Int)≤122)↔t[i].toNat≤122:=by omega
     have e3:((t[i].toNat:Int)=45)↔t[i].toNat=45:=by omega
     have e5:((t[i].toNat:Int)=46)↔t[i].toNat=46:=by omega
     have hgood:∀ (l:Bool),a17 t=U2 l (t.drop (i+1))→∀ st':St,st'.env 0=.val (.str (bs t))→st'.env 3=.val (.bool l)→st'.env 4=.val (.int .i64 (IntKind.i64.wrap ((i:Int)+1))) →
      ∃ x':Nat×Bool,(x'.1≤t.length∧a17 t=U2 x'.2 (t.drop x'.1))∧t.length - x'.1 < t.length - i∧Le st' ⟨t6 [(0,.val (.str (bs t))),(3,.val (.bool x'.2)),(4,.val (.int .i64 (x'.1:Int)))],u1 []⟩:=fun l hl st' q1 q2 q3=>by
      refine ⟨(i+1,l),⟨by simp only;omega,hl⟩,by simp only;omega,Le.mk _ _ ?_ ?_⟩
      · simp [q1,q2,q3];exact wrap_i64 (by omega) (by omega)
      · simp
     by_cases hs:97≤t[i].toNat∧t[i].toNat≤122
     · have hlow:P4 t[i]=true:=by simp [P4,hs]
       simp [b9,j4,h1,e1,e2,hs.1,hs.2]
       refine hgood false (by rw [hinv];simp [hlow]) _ ?_ ?_ ?_<;>simp
     · have hlow:P4 t[i]=false:=by simp [P4];omega
       by_cases h2:97≤t[i].toNat
       · have h3:¬ t[i].toNat≤122:=fun h=>hs ⟨h2,h⟩
         simp [b9,j4,h1,e1,e2,h2,h3]
         refine b7 rfl rfl (.inl rfl) (a5c t[i]) ?_
         cases hd:P2 t[i] with
         | true=>
          simp
          refine hgood false (by rw [hinv];simp [hlow,hd]) _ ?_ ?_ ?_<;>simp
         | false=>
          cases last with
          | true=>
           simp
           rw [hinv];simp [hlow,hd]
          | false=>
           by_cases h4:t[i].toNat=45
           · simp [b9,j4,h1,e3,e5,h4]
             refine hgood true (by rw [hinv];simp [hlow,hd,h4]) _ ?_ ?_ ?_<;>simp
           · by_cases h6:t[i].toNat=46
             · simp [b9,j4,h1,e3,e5,h4,h6]
               refine hgood true (by rw [hinv];simp [hlow,hd,h6]) _ ?_ ?_ ?_<;>simp
             · simp [b9,j4,h1,e3,e5,h4,h6]
               rw [hinv];simp [hlow,hd,h4,h6]
       · skip
         simp [b9,j4,h1,e1,e2,h2]
         refine b7 rfl rfl (.inl rfl) (a5c t[i]) ?_
         cases hd:P2 t[i] with
         | true=>
          simp
          refine hgood false (by rw [hinv];simp [hlow,hd]) _ ?_ ?_ ?_<;>simp
         | false=>
          cases last with
          | true=>
           simp
           rw [hinv];simp [hlow,hd]
          | false=>
           by_cases h4:t[i].toNat=45
           · simp [b9,j4,h1,e3,e5,h4]
             refine hgood true (by rw [hinv];simp [hlow,hd,h4]) _ ?_ ?_ ?_<;>simp
           · by_cases h6:t[i].toNat=46
             · simp [b9,j4,h1,e3,e5,h4,h6]
               refine hgood true (by rw [hinv];simp [hlow,hd,h6]) _ ?_ ?_ ?_<;>simp
             · simp [b9,j4,h1,e3,e5,h4,h6]
               rw [hinv];simp [hlow,hd,h4,h6]
   · have e:i=t.length:=by omega
     subst e
     simp [b9]
     rw [hinv];simp [U2]
end Go.Proofs
end
section
namespace Go.Proofs
open Go.PW Go.KP
attribute [local simp] RV.cells RV.one PV.cells PV.solid PV.one G1 i6 L8 K7 RV.ofCells elems PV.killL
variable [GF]
theorem d1w (m:Nat):Y9 [RV.int .u8 (48+(m:Int))]=bs [UInt8.ofNat (48+m)]:=by
 have:(48+(m:Int)).toNat=48+m:=by omega
 simp only [Y9,bs,List.map,RV.byte,this]
theorem b3t (n:Nat):n≤9223372036854775807→d8 Tryz.prog 137 [.val (num n)] (.ret (.val (tx (a22 n))) []) []:=by
 induction n using Nat.strongRecOn with
 | ind n ih=>
  intro hn
  refine f6 mixed ok137 rfl (fun _=>rfl) ?_
  unfold ir137
  rw [b6]
  have g1:¬ ((n:Int)=-9223372036854775808):=by omega
  have g2:¬ ((n:Int) < 0):=by omega
  by_cases h:n < 10
  · have g3:(n:Int) < 10:=by omega
    have g4:IntKind.i64.wrap (48+(n:Int))=48+(n:Int):=wrap_i64 (by omega) (by omega)
    have g5:IntKind.u8.wrap (48+(n:Int))=48+(n:Int):=b3w (by omega) (by omega)
    simp [d9,f9,j8,b8,d7,num,g1,g2,g3,g4,g5,RV.isU8]
    rw [a10 h]
    rw [d1w];rfl
  · have g3:¬ ((n:Int) < 10):=by omega
    have g6:(n:Int).tdiv 10=((n / 10:Nat):Int):=by rw [Int.tdiv_eq_ediv_of_nonneg (by omega)];omega
    have g7:(n:Int).tmod 10=((n % 10:Nat):Int):=by rw [Int.tmod_eq_emod_of_nonneg (by omega)];omega
    have hih:=ih (n / 10) (by omega) (by omega)
    rw [a4r h]
    have hl:=d0j (n / 10)
    have ha:n / 10≤922337203685477580:=by omega
    generalize n / 10=a at *
    have hb:n % 10 < 10:=Nat.mod_lt _ (by omega)
    generalize n % 10=b at *
    have g8:IntKind.i64.wrap (a:Int)=(a:Int):=wrap_i64 (by omega) (by omega)
    have g4:IntKind.i64.wrap (48+(b:Int))=48+(b:Int):=wrap_i64 (by omega) (by omega)
    have g5:IntKind.u8.wrap (48+(b:Int))=48+(b:Int):=b3w (by omega) (by omega)
    simp [d9,f9,j8,b8,d7,num,g1,g2,g3,g6,g7,g8,g4,g5,RV.isU8]
    refine A0 rfl rfl (.inl rfl) hih ?_
    simp [d9,f9,j8,b8,d7,num,g1,g2,g3,g6,g7,g8,g4,g5,RV.isU8,tx]
    rw [d1w]
    simp [b9,L3]
    omega
def b1z:Option Int→PV
 | some n=>.tup [.val (num n),.val (.bool true)]
 | none=>.tup [.val (num 0),.val (.bool false)]
theorem b8u (u:Tx) (neg:Bool) (st:St) (h0:st.env 0=.val (tx u)) (h4:st.env 4=.val (num (if neg then -1 else 1))) (h5:st.env 5=.val (num 0)) (hu:u.length≤18) :
 EC Tryz.prog ir268_from5 st (K:=⟨a2c [.t 2,.t 3] (b1z (if u.all P2 then some (if neg then - (V4 u:Int) else (V4 u:Int)) else none))⟩):=by
 unfold ir268_from5
 simp only [x9,F5,y4,F3,y5,q7,y0,F4,l6,A5,G6,G7,j6,p5,p6,l0,y6,p9,l2,F2,x8,p8,p7,D3,D4,a0u,a0v,Option.getD_some,Option.getD_none,C0,t8,o5,D0,o4,n7,D2,n8,D1,C9,C8,H1,w6,o2,C6,v8,o1,C5,B8,C7,w5,C3,n6,v7,C4,H3,H2,B9,C1,n9,C2,w7,o3,A8,l8,B7,B6,B5,G8,u9,m8,B3,u6,l9,B2,A6,B4,u7,B0,l7,u5,B1,H0,G9,A7,u4,n5,A9,v6,n0,J1,J0,K4,J2,J6,J4,J3,K3,J5,J7,J8,J9,K2,y9,y8,y7,M0,M1,z7,F6,u0,D8,x1,K6,q8,Q1,M4,L6,N6,N8,N7,Q2,Q3,I3,I5,I4,I6,I7,N3,x3,N2,D9,E1,E2,x4,a0x,E9,x7,P9,Q0,H4,M2,M3,Option.map_some,Option.map_none,E3,x5,w9,o6,D6,D7,H7,H6,O3,O2,I9,F0,F1,I8,N9,O0,H9,o8,I0,o7,M7,E8,E7,l1,N5,O1,I2,M9,N1,N0,x2,A2,A4,A3,k6,N4,Q5,Q4,M5,I1,U3,M6,o9,E5,E6,x6,E4,k9,u2,k8,u3,k7,K5,O4,O5,z1,z6,F8,F7,D5]
 refine j7 (X:=Nat) (fun i=>⟨t6 [(0,.val (tx u)),(4,.val (num (if neg then -1 else 1))),(5,.val (num (V4 (u.take i)))),(6,.val (num i))],u1 []⟩) (fun i=>i≤u.length∧(u.take i).all P2=true) (fun i=>u.length - i) 0 (Le.mk _ _ ?_ ?_) ?_ ?_
 · simp [upd,h0,h4,h5,num,V4]
 · simp
 · simp
 · rintro i ⟨hi,hall⟩
   have hlv:V4 (u.take i) < 1000000000000000000:=by
    have h1:=b30 _ hall
    have h2:(u.take i).length≤18:=by simp;omega
    exact Nat.lt_of_lt_of_le h1 (Nat.le_trans (Nat.pow_le_pow_right (by omega) h2) (by decide))
   simp [tx,num,b9,j4]
   refine f7 (fun h1=>?_) (fun h1=>?_)
   · have e1:((u[i].toNat:Int) < 48)↔u[i].toNat < 48:=by omega
     have e1':((48:Int)≤(u[i].toNat:Int))↔48≤u[i].toNat:=by omega
     have e2:((57:Int) < (u[i].toNat:Int))↔57 < u[i].toNat:=by omega
     by_cases h2:u[i].toNat < 48
     · have h2':¬ 48≤u[i].toNat:=by omega
       simp [tx,num,b9,j4,h1,e1,e1',e2,h2,h2']
       rw [if_neg (fun hA=>by have:=hA u[i] (List.getElem_mem h1);simp [P2] at this;omega)];rfl
     · have h2':48≤u[i].toNat:=by omega
       by_cases h3:57 < u[i].toNat
       · simp [tx,num,b9,j4,h1,e1,e1',e2,h2,h2',h3]
         rw [if_neg (fun hA=>by have:=hA u[i] (List.getElem_mem h1);simp [P2] at this;omega)];rfl
       · simp [tx,num,b9,j4,h1,e1,e1',e2,h2,h2',h3]
         have hlv2:V4 (u.take i) < 100000000000000000:=by
          have h1':=b30 _ hall
          have h2':(u.take i).length≤17:=by simp;omega
          exact Nat.lt_of_lt_of_le h1' (Nat.le_trans (Nat.pow_le_pow_right (by omega) h2') (by decide))
         have hw:IntKind.i64.wrap (IntKind.i64.wrap (IntKind.i64.wrap ((V4 (u.take i):Int)*10)+IntKind.i64.wrap (u[i].toNat:Int)) - 48)=((V4 (u.take (i+1)):Nat):Int):=by
          rw [b7g u i 0 h1,a89,a4t _ _ _ h1]
          rw [wrap_i64 (x:=(V4 (u.take i):Int)*10) (by omega) (by omega),wrap_i64 (x:=(u[i].toNat:Int)) (by omega) (by omega),wrap_i64 (x:=(V4 (u.take i):Int)*10+(u[i].toNat:Int)) (by omega) (by omega),wrap_i64 (by omega) (by omega)]
          omega
         refine LoopNext.mk (i+1) ⟨by omega,?_⟩ (by omega) (Le.mk _ _ ?_ ?_)
         · rw [R9 _ _ _ h1,hall];simp [P2];omega
         · simp [hw,tx,num];exact wrap_i64 (by omega) (by omega)
         · simp
   · have e:i=u.length:=by omega
     subst e
     rw [List.take_length] at hall hlv
     simp [tx,num,b9]
     have hA:∀ x,x∈u→P2 x=true:=by simpa using hall
     have w1:IntKind.i64.wrap (-(V4 u:Int))=-(V4 u:Int):=wrap_i64 (by omega) (by omega)
     have w2:IntKind.i64.wrap (V4 u:Int)=(V4 u:Int):=wrap_i64 (by omega) (by omega)
     cases neg with
     | true=>simp [b1z,num,eq_true hA,w1]
     | false=>simp [b1z,num,eq_true hA,w2]
theorem a6r (u:Tx) (neg:Bool) (st:St) (h0:st.env 0=.val (tx u)) (h4:st.env 4=.val (num (if neg then -1 else 1))) (hu:u.length < 1099511627776) :
 EC Tryz.prog ir268_from3 st (K:=⟨a2c [.t 2,.t 3] (b1z (a16 neg u))⟩):=by
 unfold ir268_from3
 by_cases a1:u.length=0
 · have:u=[]:=List.eq_nil_of_length_eq_zero a1
   subst this
   simp [h0,tx,b9]
   rw [show a16 neg []=none by simp [a16,a3u]];rfl
 · have a1':¬ ((u.length:Int)=0):=by omega
   by_cases a2:18 < u.length
   · have a2':(18:Int) < u.length:=by omega
     have a2'':¬ (u.length:Int)≤18:=by omega
     simp [h0,tx,b9,a1,a1',a2',a2'']
     rw [show a16 neg u=none by simp [a16,a3u,a2]];rfl
   · have hpos:0 < u.length:=by omega
     have a2':¬ (18:Int) < u.length:=by omega
     have a2'':(u.length:Int)≤18:=by omega
     have e0:u[0]?.getD 0=u.getD 0 0:=by simp
     have e1:((u[0].toNat:Int)=48)↔u[0].toNat=48:=by omega
     have e2:((1:Int) < (u.length:Int))↔1 < u.length:=by omega
     have hg:u[0]?.getD 0=u[0]:=by simp [List.getElem?_eq_getElem hpos]
     have hgo:a3u neg u=false→∀ st':St,st'.env 0=.val (tx u)→st'.env 4=.val (num (if neg then -1 else 1))→st'.env 5=.val (num 0)→EC Tryz.prog ir268_from5 st' (K:=⟨a2c [.t 2,.t 3] (b1z (a16 neg u))⟩):=fun hb st' q1 q2 q3=>by
      rw [show a16 neg u=(if u.all P2 then some (if neg then - (V4 u:Int) else (V4 u:Int)) else none) by unfold a16;rw [hb];rfl]
      exact b8u u neg st' q1 q2 q3 (by omega)
     by_cases a3:u[0].toNat=48
     · by_cases a4:1 < u.length
       · simp [h0,tx,b9,a1,a1',a2',a2'',j4,hpos,e1,e2,a3,a4]
         rw [show a16 neg u=none by simp [a16,a3u,hg,a3,a4]];rfl
       · cases neg with
         | true=>
          simp [h0,h4,num,tx,b9,a1,a1',a2',a2'',j4,hpos,e1,e2,a3,a4]
          rw [show a16 true u=none by simp [a16,a3u,hg,a3]];rfl
         | false=>
          simp [h0,h4,num,tx,b9,a1,a1',a2',a2'',j4,hpos,e1,e2,a3,a4]
          refine hgo ?_ _ ?_ ?_ ?_
          · simp [a3u,hg,a3,a4,a1,a2]
          · simp [h0,tx]
          · simp [h4,num]
          · simp [num]
     · simp [h0,tx,b9,a1,a1',a2',a2'',j4,hpos,e1,e2,a3]
       refine hgo ?_ _ ?_ ?_ ?_
       · simp [a3u,hg,a3,a1,a2]
       · simp [h0,tx]
       · simp [h4,num]
       · simp [num]
theorem c2s (t:Tx) (ht:t.length < 1099511627776):d8 Tryz.prog 268 [.val (tx t)] (.ret (b1z (W8 t)) []) []:=by
 refine f6 mixed ok268 rfl (fun ι=>by cases W8 t<;>rfl) ?_
 unfold ir268
 rw [b6]
 cases t with
 | nil=>
  simp [d9,f9,j8,b8,d7,tx,b9]
  rw [show W8 []=a16 false [] by simp [W8,a16,a3u]]
  refine a6r [] false _ ?_ ?_ (by simp)<;>simp [tx,num]
 | cons c r=>
  have hr:r.length < 1099511627776:=by simp at ht;omega
  have e0:(0:Int) < ((r.length:Int)+1):=by omega
  by_cases hc:c=45
  · have e1:((c.toNat:Int)=45):=by rw [hc];rfl
    simp [d9,f9,j8,b8,d7,tx,b9,j4,e0,e1,S1]
    rw [show W8 (c :: r)=a16 true r by simp [W8,hc]]
    refine a6r r true _ ?_ ?_ hr<;>simp [tx,num]
  · have e1:¬ ((c.toNat:Int)=45):=fun h=>hc (UInt8.toNat_inj.1 (by simp;omega))
    simp [d9,f9,j8,b8,d7,tx,b9,j4,e0,e1]
    rw [show W8 (c :: r)=a16 false (c :: r) by simp [W8,hc]]
    refine a6r (c :: r) false _ ?_ ?_ ht<;>simp [tx,num]
theorem c86 (u:LUrl) (hs:u.Small):d8 Tryz.prog 264 [.val (X0 u)] (.ret (.val (tx (c6d u))) []) []:=by
 refine f6 mixed ok264 rfl (fun _=>rfl) ?_
 unfold ir264
 rw [b6]
 obtain ⟨s1,s2,s3,s4,s5,s6,s7⟩:=hs
 have e1:(⟨#[58,47,47]⟩:ByteArray)=bs [58,47,47]:=rfl
 have e2:(⟨#[58]⟩:ByteArray)=bs [58]:=rfl
 simp [d9,f9,j8,b8,d7,X0,tx,num,b9,e1,e2,L3]
 refine ⟨by omega,by omega,f7 (fun h=>?_) (fun h=>?_)⟩
 · obtain ⟨p,hp⟩:=Int.eq_ofNat_of_zero_le (show 0≤u.port by omega)
   simp [X0,tx,num,b9,e1,e2,L3]
   refine b7 rfl rfl (.inl rfl) (by rw [hp];exact b3t p (by omega)) ?_
   have hl:=a44 18 p (by omega)
   simp [X0,tx,num,b9,e1,e2,L3]
   refine ⟨by omega,by omega,?_⟩
   simp [c6d,a19,hp,show 0 < p by omega]
 · simp [X0,tx,num,b9,e1,e2,L3]
   simp [c6d,a19,h]
theorem b4b (u:LUrl) (hs:u.Small) (pre:Tx) (hp:pre.length < 4398046511104) (st:St) (h1:st.env 1=.ptr 1 0) (h3:st.env 3=.val (tx pre)) (hm:st.mem 1=.box [.val (tx u.scheme),.val (tx u.user),.val (tx u.host),.val (num u.port),.val (tx u.path),.val (tx u.query),.val (tx u.frag),.val (.bool u.hasQ),.val (.bool u.hasF)]) :
 EC Tryz.prog ir257_from4 st (K:=⟨a2c [.t 2] (.val (tx (pre++(u.host++a19 u.port++u.path)++(if u.hasQ then 63 :: u.query else [])++(if u.hasF then 35 :: u.frag else []))))⟩):=by
 unfold ir257_from4
 obtain ⟨s1,s2,s3,s4,s5,s6,s7⟩:=hs
 have e3:(⟨#[]⟩:ByteArray)=bs []:=rfl
 have e5:(⟨#[63]⟩:ByteArray)=bs [63]:=rfl
 have e6:(⟨#[35]⟩:ByteArray)=bs [35]:=rfl
 simp [h1,h3,hm,tx,num,b9,e3,e5,e6,L3]
 refine A0 rfl rfl (.inl rfl) (c86 ⟨[],[],u.host,u.port,[],[],[],false,false⟩ ⟨by simp,by simp,s3,by simp,by simp,by simp,s7⟩) ?_
 simp [h1,h3,hm,tx,num,b9,e3,e5,e6,L3,S1,c6d]
 have hpl:=c3n u.port s7
 have htk:List.take (u.host.length+(a19 u.port).length) (u.host++a19 u.port)=u.host++a19 u.port:=List.take_of_length_le (by simp)
 refine ⟨by omega,by omega,?_⟩
 cases hq:u.hasQ with
 | true=>
  refine f7 (fun _=>?_) (fun h=>(h (by simp)).elim)
  simp [h1,h3,hm,tx,num,b9,e3,e5,e6,L3,htk]
  refine ⟨by omega,by omega,?_⟩
  cases hf:u.hasF with
  | true=>
   refine f7 (fun _=>?_) (fun h=>(h (by simp)).elim)
   simp [h1,h3,hm,tx,num,b9,e3,e5,e6,L3,htk]
   omega
  | false=>
   refine f7 (fun h=>by simp at h) (fun _=>?_)
   simp [h1,h3,hm,tx,num,b9,e3,e5,e6,L3,htk]
 | false=>
  refine f7 (fun h=>by simp at h) (fun _=>?_)
  simp [h1,h3,hm,tx,num,b9,e3,e5,e6,L3,htk]
  cases hf:u.hasF with
  | true=>
   refine f7 (fun _=>?_) (fun h=>(h (by simp)).elim)
   simp [h1,h3,hm,tx,num,b9,e3,e5,e6,L3,htk]
   omega
  | false=>
   refine f7 (fun h=>by simp at h) (fun _=>?_)
   simp [h1,h3,hm,tx,num,b9,e3,e5,e6,L3,htk]
theorem b2j (u:LUrl) (hs:u.Small):d8 Tryz.prog 257 [.val (X0 u)] (.ret (.val (tx (X6 u))) []) []:=by
 refine f6 mixed ok257 rfl (fun _=>rfl) ?_
 unfold ir257
 rw [b6]
 have hs':=hs
 obtain ⟨s1,s2,s3,s4,s5,s6,s7⟩:=hs
 have e1:(⟨#[58,47,47]⟩:ByteArray)=bs [58,47,47]:=rfl
 have e2:(⟨#[58]⟩:ByteArray)=bs [58]:=rfl
 have e3:(⟨#[]⟩:ByteArray)=bs []:=rfl
 have e4:(⟨#[64]⟩:ByteArray)=bs [64]:=rfl
 have e5:(⟨#[63]⟩:ByteArray)=bs [63]:=rfl
 have e6:(⟨#[35]⟩:ByteArray)=bs [35]:=rfl
 simp [d9,f9,j8,b8,d7,X0,tx,num,b9,e1,e2,L3]
 refine b7 rfl rfl (.inl rfl) (a8q u.scheme) ?_
 by_cases hw:a0o u.scheme=true
 · simp [X0,tx,num,b9,e1,e2,e3,e4,L3,L2,hw]
   refine ⟨by omega,f7 (fun hu=>?_) (fun hu=>?_)⟩
   · simp [X0,tx,num,b9,e1,e2,e3,e4,L3,L2]
     refine ⟨by omega,by omega,?_⟩
     have e:X6 u=(u.scheme++[58,47,47]++(u.user++[64]))++(u.host++a19 u.port++u.path)++(if u.hasQ then 63 :: u.query else [])++(if u.hasF then 35 :: u.frag else []):=by simp [X6,hw,hu]
     have:=b4b u hs' (u.scheme++[58,47,47]++(u.user++[64])) (by simp;omega)
     rw [← e] at this
     refine this _ ?_ ?_ ?_<;>simp [tx,num]
   · have hu:u.user=[]:=Classical.byContradiction hu
     have e:X6 u=(u.scheme++[58,47,47])++(u.host++a19 u.port++u.path)++(if u.hasQ then 63 :: u.query else [])++(if u.hasF then 35 :: u.frag else []):=by simp [X6,hw,hu]
     have:=b4b u hs' (u.scheme++[58,47,47]) (by simp;omega)
     rw [← e] at this
     simp [X0,tx,num,b9,e1,e2,e3,e4,L3,L2]
     refine this _ ?_ ?_ ?_<;>simp [tx,num]
 · simp [X0,tx,num,b9,e1,e2,L3,hw]
   refine ⟨by omega,by omega,?_⟩
   simp [X6,hw]
end Go.Proofs
end
section
namespace Go.Proofs
open Go.PW Go.KP
attribute [local simp] RV.cells RV.one PV.cells PV.solid PV.one G1 i6 L8 K7 RV.ofCells elems PV.killL
variable [GF]
theorem c0a (u:LUrl) (hs:u.Small) (hw:a0o u.scheme=true) (st:St) (h1:st.env 1=.ptr 1 0) (hm:st.mem 1=.box [.val (tx u.scheme),.val (tx u.user),.val (tx u.host),.val (num u.port),.val (tx u.path),.val (tx u.query),.val (tx u.frag),.val (.bool u.hasQ),.val (.bool u.hasF)]) :
 EC Tryz.prog ir267_from3 st (K:=⟨a2c [.t 2] (.val (.bool (X7 u.user [47,63,35,64] && a17 u.host && decide (0≤u.port∧u.port≤65535) && decide (u.port≠a0s u.scheme) && decide (0 < u.path.length) && decide ((u.path.getD 0 0).toNat=47))))⟩):=by
 unfold ir267_from3
 obtain ⟨s1,s2,s3,s4,s5,s6,s7⟩:=hs
 have e3:(⟨#[47,63,35,64]⟩:ByteArray)=bs [47,63,35,64]:=rfl
 simp [h1,hm,tx,num,b9,e3]
 refine A0 rfl rfl (.inl rfl) (a9d u.user [47,63,35,64] s2 (by simp)) ?_
 cases a1:X7 u.user [47,63,35,64] with
 | false=>simp [h1,hm,tx,num,b9]
 | true=>
  simp [h1,hm,tx,num,b9]
  refine A0 rfl rfl (.inl rfl) (c87 u.host s3) ?_
  cases a2:a17 u.host with
  | false=>simp [h1,hm,tx,num,b9]
  | true=>
   simp [h1,hm,tx,num,b9]
   refine A0 rfl rfl (.inl rfl) (U0 .i64 u.port 0 65535) ?_
   cases a3:decide (0≤u.port∧u.port≤65535) with
   | false=>simp [h1,hm,tx,num,b9]
   | true=>
    simp [h1,hm,tx,num,b9]
    refine A0 rfl rfl (.inl rfl) (b56 u.scheme) ?_
    by_cases a4:u.port=a0s u.scheme
    · simp [h1,hm,tx,num,b9,a4]
    · simp [h1,hm,tx,num,b9,a4]
      by_cases a5:0 < u.path.length
      · have a5':u.path≠[]:=fun e=>by simp [e] at a5
        have e7:((u.path[0].toNat:Int)=47)↔u.path[0].toNat=47:=by omega
        simp [h1,hm,tx,num,b9,j4,a4,a5,a5',e7,List.getElem?_eq_getElem a5]
        by_cases h47:u.path[0].toNat=47
        · simp [h47]
        · have h47':((u.path[0].toNat:Int) == 47)=false:=by simp;omega
          rw [h47'];simp [h47]
      · simp [h1,hm,tx,num,b9,a4,a5]
def a6m (u:LUrl):Bool:=
 if a0o u.scheme then X7 u.user [47,63,35,64] && a17 u.host && decide (0≤u.port∧u.port≤65535) && decide (u.port≠a0s u.scheme) && decide (0 < u.path.length) && decide ((u.path.getD 0 0).toNat=47)
 else decide (u.user=[]) && decide (u.host=[]) && decide (u.port=0) && !u.hasQ && !u.hasF
theorem c0b (u:LUrl) (hs:u.Small) (st:St) (h1:st.env 1=.ptr 1 0) (hm:st.mem 1=.box [.val (tx u.scheme),.val (tx u.user),.val (tx u.host),.val (num u.port),.val (tx u.path),.val (tx u.query),.val (tx u.frag),.val (.bool u.hasQ),.val (.bool u.hasF)]) :
 EC Tryz.prog ir267_from2 st (K:=⟨a2c [.t 2] (.val (.bool (a6m u)))⟩):=by
 unfold ir267_from2
 have e3:(⟨#[]⟩:ByteArray)=bs []:=rfl
 simp [h1,hm,tx,num,b9]
 refine b7 rfl rfl (.inl rfl) (a8q u.scheme) ?_
 cases hw:a0o u.scheme with
 | true=>
  simp [h1,hm,tx,num,b9]
  rw [show a6m u=_ by unfold a6m;rw [hw,if_pos rfl]]
  refine c0a u hs hw _ ?_ ?_<;>simp [h1,hm,tx,num]
 | false=>
  rw [show a6m u=_ by unfold a6m;rw [hw,if_neg (by simp)]]
  by_cases a1:u.user=[]
  · by_cases a2:u.host=[]
    · by_cases a3:u.port=0
      · cases a4:u.hasQ with
        | true=>simp [h1,hm,tx,num,b9,e3,L2,a1,a2,a3,a4]
        | false=>simp [h1,hm,tx,num,b9,e3,L2,a1,a2,a3,a4]
      · simp [h1,hm,tx,num,b9,e3,L2,a1,a2,a3]
    · simp [h1,hm,tx,num,b9,e3,L2,a1,a2]
  · simp [h1,hm,tx,num,b9,e3,L2,a1]
structure UO (st:St) (u:LUrl):Prop where
 e1:st.env 1=.ptr 1 0
 m1:st.mem 1=.box [.val (tx u.scheme),.val (tx u.user),.val (tx u.host),.val (num u.port),.val (tx u.path),.val (tx u.query),.val (tx u.frag),.val (.bool u.hasQ),.val (.bool u.hasF)]
section
variable {Ks:Kx (St→Prop)} {kx:Kx (RV→St→Prop)} {st:St} {u:LUrl} {b:Bool}
def c6u (u:LUrl):Bool:=decide (100 < (X6 u).length)
theorem okops43 (hs:u.Small) (h:UO st u) (hb:st.env 45=.val (.bool b)) (hK:∀ st',UO st' u→st'.env 50=.val (.bool (b || c6u u))→Ks.k st'):EO Tryz.prog ir267_ops1_43 st (Ks:=Ks) (kx:=kx):=by
 unfold ir267_ops1_43
 obtain ⟨e1,m1⟩:=h
 cases b with
 | true=>
  simp [hb]
  refine hK _ ⟨?_,?_⟩ ?_<;>simp [e1,m1]
 | false=>
  simp [hb,e1,m1]
  refine b7 rfl rfl (.inl rfl) (b2j u hs) ?_
  have e:((100:Int) < ((X6 u).length:Int))↔100 < (X6 u).length:=by omega
  simp [hb,e1,m1,tx,b9]
  refine hK _ ⟨?_,?_⟩ ?_<;>simp [e1,m1,c6u,e,tx,num]
def c6v (u:LUrl):Bool:=!X7 u.frag [] || c6u u
theorem okops37 (hs:u.Small) (h:UO st u) (hb:st.env 39=.val (.bool b)) (hK:∀ st',UO st' u→st'.env 50=.val (.bool (b || c6v u))→Ks.k st'):EO Tryz.prog ir267_ops1_37 st (Ks:=Ks) (kx:=kx):=by
 unfold ir267_ops1_37
 have e3:(⟨#[]⟩:ByteArray)=bs []:=rfl
 cases b with
 | true=>
  simp [hb]
  refine okops43 (b:=true) hs ⟨?_,?_⟩ ?_ (fun st' q1 q2=>hK st' q1 ?_)
  · simp [h.e1]
  · simp [h.m1]
  · simp
  · simpa using q2
 | false=>
  simp [hb,h.e1,h.m1,e3,tx]
  refine b7 rfl rfl (.inl rfl) (a9d u.frag [] hs.2.2.2.2.2.1 (by simp)) ?_
  simp [hb,e3,tx]
  refine okops43 (b:=!X7 u.frag []) hs ⟨?_,?_⟩ ?_ (fun st' q1 q2=>hK st' q1 ?_)
  · simp [h.e1]
  · simp [h.m1]
  · simp
  · simpa [c6v] using q2
def c6w (u:LUrl):Bool:=!X7 u.query [35] || c6v u
theorem okops31 (hs:u.Small) (h:UO st u) (hb:st.env 33=.val (.bool b)) (hK:∀ st',UO st' u→st'.env 50=.val (.bool (b || c6w u))→Ks.k st'):EO Tryz.prog ir267_ops1_31 st (Ks:=Ks) (kx:=kx):=by
 unfold ir267_ops1_31
 have e3:(⟨#[35]⟩:ByteArray)=bs [35]:=rfl
 cases b with
 | true=>
  simp [hb]
  refine okops37 (b:=true) hs ⟨?_,?_⟩ ?_ (fun st' q1 q2=>hK st' q1 ?_)
  · simp [h.e1]
  · simp [h.m1]
  · simp
  · simpa using q2
 | false=>
  simp [hb,h.e1,h.m1,e3,tx]
  refine b7 rfl rfl (.inl rfl) (a9d u.query [35] hs.2.2.2.2.1 (by simp)) ?_
  simp [hb,e3,tx]
  refine okops37 (b:=!X7 u.query [35]) hs ⟨?_,?_⟩ ?_ (fun st' q1 q2=>hK st' q1 ?_)
  · simp [h.e1]
  · simp [h.m1]
  · simp
  · simpa [c6w] using q2
def c6x (u:LUrl):Bool:=!X7 u.path [63,35] || c6w u
theorem okops25 (hs:u.Small) (h:UO st u) (hb:st.env 27=.val (.bool b)) (hK:∀ st',UO st' u→st'.env 50=.val (.bool (b || c6x u))→Ks.k st'):EO Tryz.prog ir267_ops1_25 st (Ks:=Ks) (kx:=kx):=by
 unfold ir267_ops1_25
 have e3:(⟨#[63,35]⟩:ByteArray)=bs [63,35]:=rfl
 cases b with
 | true=>
  simp [hb]
  refine okops31 (b:=true) hs ⟨?_,?_⟩ ?_ (fun st' q1 q2=>hK st' q1 ?_)
  · simp [h.e1]
  · simp [h.m1]
  · simp
  · simpa using q2
 | false=>
  simp [hb,h.e1,h.m1,e3,tx]
  refine b7 rfl rfl (.inl rfl) (a9d u.path [63,35] hs.2.2.2.1 (by simp)) ?_
  simp [hb,e3,tx]
  refine okops31 (b:=!X7 u.path [63,35]) hs ⟨?_,?_⟩ ?_ (fun st' q1 q2=>hK st' q1 ?_)
  · simp [h.e1]
  · simp [h.m1]
  · simp
  · simpa [c6x] using q2
def b6g (u:LUrl):Bool:=(!u.hasF && !decide (u.frag=[])) || c6x u
theorem okops15 (hs:u.Small) (h:UO st u) (hb:st.env 17=.val (.bool b)) (hK:∀ st',UO st' u→st'.env 50=.val (.bool (b || b6g u))→Ks.k st'):EO Tryz.prog ir267_ops1_15 st (Ks:=Ks) (kx:=kx):=by
 unfold ir267_ops1_15
 have e3:(⟨#[]⟩:ByteArray)=bs []:=rfl
 cases b with
 | true=>
  simp [hb]
  refine okops25 (b:=true) hs ⟨?_,?_⟩ ?_ (fun st' q1 q2=>hK st' q1 ?_)
  · simp [h.e1]
  · simp [h.m1]
  · simp
  · simpa using q2
 | false=>
  cases hf:u.hasF with
  | true=>
   simp [hb,h.e1,h.m1,e3,tx,hf]
   refine okops25 (b:=false) hs ⟨?_,?_⟩ ?_ (fun st' q1 q2=>hK st' q1 ?_)
   · simp [h.e1]
   · simp [h.m1]
   · simp
   · simpa [b6g,hf] using q2
  | false=>
   simp [hb,h.e1,h.m1,e3,tx,hf,L2]
   refine okops25 (b:=!decide (u.frag=[])) hs ⟨?_,?_⟩ ?_ (fun st' q1 q2=>hK st' q1 ?_)
   · simp [h.e1]
   · simp [h.m1]
   · simp
   · simpa [b6g,hf] using q2
end
theorem c6r (u:LUrl) (hs:u.Small):d8 Tryz.prog 267 [.val (X0 u)] (.ret (.val (.bool (S0 u))) []) []:=by
 refine f6 mixed ok267 rfl (fun _=>rfl) ?_
 unfold ir267
 rw [b6]
 have hlu:S0 u=(V8 u.scheme && (u.hasQ || decide (u.query=[])) && (u.hasF || decide (u.frag=[])) && X7 u.path [63,35] && X7 u.query [35] && X7 u.frag [] && decide ((X6 u).length≤100) && a6m u):=rfl
 have hend:∀ st':St,UO st' u→∀ b,st'.env 50=.val (.bool (b || b6g u))→b=(!V8 u.scheme || (!u.hasQ && !decide (u.query=[]))) →
  CD (st'.env 50) (A:=⟨EC Tryz.prog (.seq (.reg [⟨some 2,.mov (.k (.val (.bool false))),none⟩]) .ret) st' (K:=⟨fun e st'=>ET e st' (Ks:=⟨fun st'=>EC Tryz.prog ir267_from2 st' (K:=⟨a2c [.t 2] (.val (.bool (S0 u)))⟩)⟩) (K:=⟨a2c [.t 2] (.val (.bool (S0 u)))⟩)⟩)⟩)
   (B:=⟨EC Tryz.prog .skip st' (K:=⟨fun e st'=>ET e st' (Ks:=⟨fun st'=>EC Tryz.prog ir267_from2 st' (K:=⟨a2c [.t 2] (.val (.bool (S0 u)))⟩)⟩) (K:=⟨a2c [.t 2] (.val (.bool (S0 u)))⟩)⟩)⟩):=by
  intro st' h b hb hbb
  have hlu2:S0 u=(!(b || b6g u) && a6m u):=by
   rw [hlu,hbb]
   unfold b6g c6x c6w c6v c6u
   have e:decide ((X6 u).length≤100)=!decide (100 < (X6 u).length):=by
    by_cases h:(X6 u).length≤100
    · have h':¬ 100 < (X6 u).length:=by omega
      simp [h,h']
    · have h':100 < (X6 u).length:=by omega
      simp [h,h']
   rw [e]
   cases V8 u.scheme<;>cases u.hasQ<;>cases u.hasF<;>cases decide (u.query=[])<;>cases decide (u.frag=[])<;>cases X7 u.path [63,35]<;>cases X7 u.query [35]<;>cases X7 u.frag []<;>cases decide (100 < (X6 u).length)<;>rfl
  rw [hb,hlu2]
  cases (b || b6g u) with
  | true=>simp
  | false=>
   simp only [x9,F5,y4,F3,y5,q7,y0,F4,l6,A5,G6,G7,j6,p5,p6,l0,y6,p9,l2,F2,x8,p8,p7,D3,D4,a0u,a0v,Option.getD_some,Option.getD_none,C0,t8,o5,D0,o4,n7,D2,n8,D1,C9,C8,H1,w6,o2,C6,v8,o1,C5,B8,C7,w5,C3,n6,v7,C4,H3,H2,B9,C1,n9,C2,w7,o3,A8,l8,B7,B6,B5,G8,u9,m8,B3,u6,l9,B2,A6,B4,u7,B0,l7,u5,B1,H0,G9,A7,u4,n5,A9,v6,n0,J1,J0,K4,J2,J6,J4,J3,K3,J5,J7,J8,J9,K2,y9,y8,y7,M0,M1,z7,F6,u0,D8,x1,K6,q8,Q1,M4,L6,N6,N8,N7,Q2,Q3,I3,I5,I4,I6,I7,N3,x3,N2,D9,E1,E2,x4,a0x,E9,x7,P9,Q0,H4,M2,M3,Option.map_some,Option.map_none,E3,x5,w9,o6,D6,D7,H7,H6,O3,O2,I9,F0,F1,I8,N9,O0,H9,o8,I0,o7,M7,E8,E7,l1,N5,O1,I2,M9,N1,N0,x2,A2,A4,A3,k6,N4,Q5,Q4,M5,I1,U3,M6,o9,E5,E6,x6,E4,k9,u2,k8,u3,k7,K5,O4,O5,z1,z6,F8,F7,D5]
   refine f7 (fun h=>by cases h) (fun _=>?_)
   simp only [x9,F5,y4,F3,y5,q7,y0,F4,l6,A5,G6,G7,j6,p5,p6,l0,y6,p9,l2,F2,x8,p8,p7,D3,D4,a0u,a0v,Option.getD_some,Option.getD_none,C0,t8,o5,D0,o4,n7,D2,n8,D1,C9,C8,H1,w6,o2,C6,v8,o1,C5,B8,C7,w5,C3,n6,v7,C4,H3,H2,B9,C1,n9,C2,w7,o3,A8,l8,B7,B6,B5,G8,u9,m8,B3,u6,l9,B2,A6,B4,u7,B0,l7,u5,B1,H0,G9,A7,u4,n5,A9,v6,n0,J1,J0,K4,J2,J6,J4,J3,K3,J5,J7,J8,J9,K2,y9,y8,y7,M0,M1,z7,F6,u0,D8,x1,K6,q8,Q1,M4,L6,N6,N8,N7,Q2,Q3,I3,I5,I4,I6,I7,N3,x3,N2,D9,E1,E2,x4,a0x,E9,x7,P9,Q0,H4,M2,M3,Option.map_some,Option.map_none,E3,x5,w9,o6,D6,D7,H7,H6,O3,O2,I9,F0,F1,I8,N9,O0,H9,o8,I0,o7,M7,E8,E7,l1,N5,O1,I2,M9,N1,N0,x2,A2,A4,A3,k6,N4,Q5,Q4,M5,I1,U3,M6,o9,E5,E6,x6,E4,k9,u2,k8,u3,k7,K5,O4,O5,z1,z6,F8,F7,D5]
   exact c0b u hs st' h.e1 h.m1
 simp [d9,f9,j8,b8,d7,X0,tx,num,b9]
 refine b7 rfl rfl (.inl rfl) (c2q u.scheme hs.1) ?_
 have e3:(⟨#[]⟩:ByteArray)=bs []:=rfl
 cases b1:V8 u.scheme with
 | false=>
  simp [tx,num,b9]
  refine okops15 (b:=true) hs ⟨?_,?_⟩ ?_ (fun st' q1 q2=>hend st' q1 true q2 (by simp [b1]))
  · simp
  · simp [tx,num]
  · simp
 | true=>
  cases hq:u.hasQ with
  | true=>
   simp [tx,num,b9,hq]
   refine okops15 (b:=false) hs ⟨?_,?_⟩ ?_ (fun st' q1 q2=>hend st' q1 false q2 (by simp [b1,hq]))
   · simp
   · simp [tx,num,hq]
   · simp
  | false=>
   simp [tx,num,b9,hq,e3,L2]
   refine okops15 (b:=!decide (u.query=[])) hs ⟨?_,?_⟩ ?_ (fun st' q1 q2=>hend st' q1 _ q2 (by simp [b1,hq]))
   · simp
   · simp [tx,num,hq]
   · simp
end Go.Proofs
end
section
namespace Go.Proofs
open Go.PW Go.KP
attribute [local simp] RV.cells RV.one PV.cells PV.solid PV.one G1 i6 L8 K7 RV.ofCells elems PV.killL
variable [GF]
abbrev prs (r:LUrl×Bool):Kx (PExit→St→Prop):=⟨a2c [.c 2 true 9,.t 3] (a58 r)⟩
structure UP (st:St) (u:LUrl) (r:Tx):Prop where
 e2:st.env 2=.ptr 2 0
 e5:st.env 5=.ptr 5 0
 e6:st.env 6=.val (tx r)
 m2:st.mem 2=.box (f5 LUrl.zero)
 m5:st.mem 5=.box (f5 u)
theorem a4h (t:Tx) (k:Nat):List.drop k (List.take t.length t)=t.drop k:=by rw [List.take_length]
theorem a6p (u:LUrl) (hs:u.Small) (r:Tx) (st:St) (h:UP st u r):EC Tryz.prog ir200_from18 st (K:=prs (u,S0 u)):=by
 unfold ir200_from18
 obtain ⟨e2,e5,e6,m2,m5⟩:=h
 simp [e2,e5,m2,m5,f5,i6,tx,num]
 refine A0 rfl rfl (.inl rfl) (c6r u hs) ?_
 simp [e2,e5,m2,m5,f5,i6,tx,num]
 refine a7s (id:=2) ?_ ?_ ?_
 · simp [e2]
 · simp [e2,f5,tx,num]
 · simp
theorem a03 (st:St) (e2:st.env 2=.ptr 2 0) (m2:st.mem 2=.box (f5 LUrl.zero)) (e3:st.env 3=.val (.bool false)):a2c [.c 2 true 9,.t 3] (a58 (LUrl.zero,false)) .ret st:=
 a7s e2 m2 e3
def T3 (u:LUrl) (r:Tx):LUrl×Bool:=match a2g u.scheme r with
 | none=>(LUrl.zero,false)
 | some p=>({ u with port:=p },S0 { u with port:=p })
theorem c4a {t:Tx} {n:Int} (h:W8 t=some n):n≤1000000000000000000:=by
 obtain ⟨_,_,u,h1,h2,h3,h4⟩:=a60 h
 have:=b30 u h2
 have h5:V4 u < 10 ^ 18:=Nat.lt_of_lt_of_le this (Nat.pow_le_pow_right (by omega) h3)
 have h6:(10:Nat) ^ 18=1000000000000000000:=by decide
 rcases h4 with h4 | h4<;>omega
theorem b8p (u:LUrl) (hs:u.Small) (hp:u.port=0) (r:Tx) (hr:r.length < 1099511627776) (st:St) (h:UP st u r) (e4:st.env 4=.val (num (M8 r 58))):EC Tryz.prog ir200_from17 st (K:=prs (T3 u r)):=by
 unfold ir200_from17
 obtain ⟨e2,e5,e6,m2,m5⟩:=h
 have hle:=a08 r 58
 by_cases hc:58∈r
 · have hlt:=W3.2 hc
   have g1:((M8 r 58:Nat):Int) < (r.length:Int):=by omega
   have g2:IntKind.i64.wrap ((M8 r 58:Nat)+1:Int)=((M8 r 58+1:Nat):Int):=by rw [wrap_i64 (by omega) (by omega)];omega
   have g3:M8 r 58+1≤r.length:=by omega
   have g4:(0:Int)≤((M8 r 58:Nat):Int)+1:=by omega
   simp [e2,e4,e5,e6,m2,m5,tx,num,b9,g1,g2,g3,g4,S1,a4h,hlt]
   have hn:=c2s (G4 r 58) (by have:=Z6 r 58;omega)
   cases hnum:W8 (G4 r 58) with
   | none=>
    rw [hnum] at hn
    refine Y3 rfl rfl (.inl rfl) hn ?_
    rw [show T3 u r=(LUrl.zero,false) by simp [T3,a2g,hc,hnum]]
    simp [e2,e4,e5,e6,m2,m5,tx,num,f5]
    refine a03 _ ?_ ?_ ?_
    · simp [e2]
    · simp [f5,LUrl.zero,tx,num,bs]
    · simp
   | some n=>
    have hn1:=c4a hnum
    rw [hnum] at hn
    refine Y3 rfl rfl (.inl rfl) hn ?_
    by_cases hin:1≤n∧n≤65535
    · simp [e2,e4,e5,e6,m2,m5,tx,num,f5]
      refine b7 rfl rfl (.inl rfl) (U0 .i64 n 1 65535) ?_
      simp [e2,e4,e5,e6,m2,m5,tx,num,f5,hin]
      refine b7 rfl rfl (.inl rfl) (b56 u.scheme) ?_
      by_cases hu:n=a0s u.scheme
      · have e:T3 u r=(u,S0 u):=by
         have hl:a2g u.scheme r=some 0:=by
          simp only [a2g,hc,hnum,hin,if_true,and_self]
          rw [if_pos hu]
         have:({ u with port:=0 }:LUrl)=u:=by rw [← hp]
         simp only [T3,hl,this]
        rw [e]
        simp [e2,e4,e5,e6,m2,m5,tx,num,f5,hu]
        refine a6p u hs r _ ⟨?_,?_,?_,?_,?_⟩<;>simp [e2,e5,e6,m2,m5,f5,tx,num]
      · have e:T3 u r=({ u with port:=n },S0 { u with port:=n }):=by
         simp only [T3,a2g,hc,hnum,hin,if_true,and_self,hu,if_false]
        rw [e]
        simp [e2,e4,e5,e6,m2,m5,tx,num,f5,hu]
        refine a6p { u with port:=n } ?_ r _ ⟨?_,?_,?_,?_,?_⟩
        · exact ⟨hs.1,hs.2.1,hs.2.2.1,hs.2.2.2.1,hs.2.2.2.2.1,hs.2.2.2.2.2.1,by show n≤_;omega⟩
        all_goals simp [e2,e5,e6,m2,m5,f5,tx,num]
    · rw [show T3 u r=(LUrl.zero,false) by simp only [T3,a2g,hc,hnum,hin,if_true,if_false]]
      simp [e2,e4,e5,e6,m2,m5,tx,num,f5]
      refine b7 rfl rfl (.inl rfl) (U0 .i64 n 1 65535) ?_
      have hd:decide (1≤n∧n≤65535)=false:=decide_eq_false hin
      rw [hd]
      simp [e2,e4,e5,e6,m2,m5,tx,num,f5]
      refine a03 _ ?_ ?_ ?_
      · simp [e2]
      · simp [f5,LUrl.zero,tx,num,bs]
      · simp
 · have hge:M8 r 58=r.length:=by have:=mt W3.1 hc;omega
   have e:T3 u r=(u,S0 u):=by
    simp only [T3,a2g,hc,if_false]
    have:({ u with port:=0 }:LUrl)=u:=by rw [← hp]
    rw [this]
   rw [e]
   simp [e2,e4,e5,e6,m2,m5,tx,num,b9,hge]
   refine a6p u hs r _ ⟨?_,?_,?_,?_,?_⟩<;>simp [e2,e5,e6,m2,m5,f5,tx,num]
theorem b0z (sc us pa qu fr:Tx) (hq hf:Bool) (h1:sc.length < 1099511627776) (h2:us.length < 1099511627776) (h3:pa.length < 1099511627776) (h4:qu.length < 1099511627776) (h5:fr.length < 1099511627776) (r:Tx) (hr:r.length < 1099511627776) (st:St)
 (h:UP st ⟨sc,us,[],0,pa,qu,fr,hq,hf⟩ r):EC Tryz.prog ir200_from15 st (K:=prs (T3 ⟨sc,us,R4 (j9 r 58),0,pa,qu,fr,hq,hf⟩ r)):=by
 unfold ir200_from15
 obtain ⟨e2,e5,e6,m2,m5⟩:=h
 have hle:=a08 r 58
 simp [e2,e5,e6,m2,m5,tx,num,b9]
 refine b7 rfl rfl (.inl rfl) (a11 r 58 hr) ?_
 simp [e2,e5,e6,m2,m5,tx,num,b9,hle,S1]
 refine b7 rfl rfl (.inl rfl) (b58 (j9 r 58) (by have:=R8 r 58;omega)) ?_
 simp [e2,e5,e6,m2,m5,tx,num,b9,f5]
 refine b8p ⟨sc,us,R4 (j9 r 58),0,pa,qu,fr,hq,hf⟩ ?_ rfl r hr _ ⟨?_,?_,?_,?_,?_⟩ ?_
 · refine ⟨h1,h2,?_,h3,h4,h5,by show (0:Int)≤_;omega⟩
   have:=R8 r 58
   simp [R4];omega
 all_goals simp [e2,e5,e6,m2,m5,f5,tx,num]
theorem b00 (sc pa qu fr:Tx) (hq hf:Bool) (h1:sc.length < 1099511627776) (h3:pa.length < 1099511627776) (h4:qu.length < 1099511627776) (h5:fr.length < 1099511627776) (r:Tx) (hr:r.length < 1099511627776) (st:St)
 (h:UP st ⟨sc,[],[],0,pa,qu,fr,hq,hf⟩ r):EC Tryz.prog ir200_from14 st (K:=prs (T3 ⟨sc,if 64∈r then j9 r 64 else [],R4 (j9 (if 64∈r then G4 r 64 else r) 58),0,pa,qu,fr,hq,hf⟩ (if 64∈r then G4 r 64 else r))):=by
 unfold ir200_from14
 obtain ⟨e2,e5,e6,m2,m5⟩:=h
 have hle:=a08 r 64
 simp [e2,e5,e6,m2,m5,tx,num,b9]
 refine b7 rfl rfl (.inl rfl) (a11 r 64 hr) ?_
 by_cases hc:64∈r
 · have hlt:=W3.2 hc
   have g2:IntKind.i64.wrap ((M8 r 64:Nat)+1:Int)=((M8 r 64+1:Nat):Int):=by rw [wrap_i64 (by omega) (by omega)];omega
   have g3:M8 r 64+1≤r.length:=by omega
   have g4:(0:Int)≤((M8 r 64:Nat):Int)+1:=by omega
   simp [e2,e5,e6,m2,m5,tx,num,b9,f5,hlt,hle,g2,g3,g4,S1,a4h]
   have e:(if 64∈r then G4 r 64 else r)=G4 r 64:=if_pos hc
   rw [if_pos hc,e]
   refine b0z sc (j9 r 64) pa qu fr hq hf h1 (by have:=R8 r 64;omega) h3 h4 h5 (G4 r 64) (by have:=Z6 r 64;omega) _ ⟨?_,?_,?_,?_,?_⟩<;>simp [e2,e5,e6,m2,m5,f5,tx,num,j9,G4]
 · have hge:M8 r 64=r.length:=by have:=mt W3.1 hc;omega
   simp [e2,e5,e6,m2,m5,tx,num,b9,hge]
   have e:(if 64∈r then G4 r 64 else r)=r:=if_neg hc
   rw [if_neg hc,e]
   refine b0z sc [] pa qu fr hq hf h1 (by simp) h3 h4 h5 r hr _ ⟨?_,?_,?_,?_,?_⟩<;>simp [e2,e5,e6,m2,m5,f5,tx,num]
def b3y (sc pa qu fr:Tx) (hq hf:Bool) (r:Tx):LUrl×Bool:=
 T3 ⟨sc,if 64∈r then j9 r 64 else [],R4 (j9 (if 64∈r then G4 r 64 else r) 58),0,pa,qu,fr,hq,hf⟩ (if 64∈r then G4 r 64 else r)
theorem b8q (sc qu fr:Tx) (hq hf:Bool) (h1:sc.length < 1099511627776) (h4:qu.length < 1099511627776) (h5:fr.length < 1099511627776) (r:Tx) (hr:r.length < 1099511627776) (st:St)
 (h:UP st ⟨sc,[],[],0,r.drop (M8 r 47),qu,fr,hq,hf⟩ r) (e4:st.env 4=.val (num (M8 r 47))):EC Tryz.prog ir200_from12 st (K:=prs (b3y sc (if 47∈r then r.drop (M8 r 47) else [47]) qu fr hq hf (j9 r 47))):=by
 unfold ir200_from12
 obtain ⟨e2,e5,e6,m2,m5⟩:=h
 have hle:=a08 r 47
 have e3:(⟨#[]⟩:ByteArray)=bs []:=rfl
 by_cases hc:47∈r
 · have hlt:=W3.2 hc
   have hne:¬ r.drop (M8 r 47)=[]:=by
    intro e;have:=congrArg List.length e;simp at this;omega
   have hne2:¬ r.length≤M8 r 47:=by omega
   rw [if_pos hc]
   simp [e2,e4,e5,e6,m2,m5,tx,num,b9,f5,e3,L2,hne,hne2,hle,S1]
   refine b00 sc (r.drop (M8 r 47)) qu fr hq hf h1 (by simp;omega) h4 h5 (j9 r 47) (by have:=R8 r 47;omega) _ ⟨?_,?_,?_,?_,?_⟩<;>simp [e2,e5,e6,m2,m5,f5,tx,num,j9]
 · have hge:M8 r 47=r.length:=by have:=mt W3.1 hc;omega
   have e4':(⟨#[47]⟩:ByteArray)=bs [47]:=rfl
   rw [if_neg hc]
   simp [e2,e4,e5,e6,m2,m5,tx,num,b9,f5,e3,e4',L2,hge,S1]
   refine b00 sc [47] qu fr hq hf h1 (by simp) h4 h5 (j9 r 47) (by have:=R8 r 47;omega) _ ⟨?_,?_,?_,?_,?_⟩<;>simp [e2,e5,e6,m2,m5,f5,tx,num,j9,hge]
def a8z (sc qu fr:Tx) (hq hf:Bool) (r:Tx):LUrl×Bool:=b3y sc (if 47∈r then r.drop (M8 r 47) else [47]) qu fr hq hf (j9 r 47)
theorem b01 (sc qu fr:Tx) (hq hf:Bool) (h1:sc.length < 1099511627776) (h4:qu.length < 1099511627776) (h5:fr.length < 1099511627776) (r:Tx) (hr:r.length < 1099511627776) (st:St)
 (h:UP st ⟨sc,[],[],0,[],qu,fr,hq,hf⟩ r):EC Tryz.prog ir200_from10 st (K:=prs (a8z sc qu fr hq hf r)):=by
 unfold ir200_from10
 obtain ⟨e2,e5,e6,m2,m5⟩:=h
 have hle:=a08 r 47
 simp [e2,e5,e6,m2,m5,tx,num,b9]
 refine b7 rfl rfl (.inl rfl) (a11 r 47 hr) ?_
 simp [e2,e5,e6,m2,m5,tx,num,b9,hle,S1,f5,a4h]
 refine b8q sc qu fr hq hf h1 h4 h5 r hr _ ⟨?_,?_,?_,?_,?_⟩ ?_<;>simp [e2,e5,e6,m2,m5,f5,tx,num]
theorem b2y (sc fr:Tx) (hf:Bool) (h1:sc.length < 1099511627776) (h5:fr.length < 1099511627776) (r:Tx) (hr:r.length < 1099511627776) (st:St)
 (h:UP st ⟨sc,[],[],0,[],[],fr,false,hf⟩ r):EC Tryz.prog ir200_from9 st (K:=prs (a8z sc (G4 r 63) fr (decide (63∈r)) hf (j9 r 63))):=by
 unfold ir200_from9
 obtain ⟨e2,e5,e6,m2,m5⟩:=h
 have hle:=a08 r 63
 simp [e2,e5,e6,m2,m5,tx,num,b9]
 refine b7 rfl rfl (.inl rfl) (a11 r 63 hr) ?_
 by_cases hc:63∈r
 · have hlt:=W3.2 hc
   have g2:IntKind.i64.wrap ((M8 r 63:Nat)+1:Int)=((M8 r 63+1:Nat):Int):=by rw [wrap_i64 (by omega) (by omega)];omega
   have g3:M8 r 63+1≤r.length:=by omega
   have g4:(0:Int)≤((M8 r 63:Nat):Int)+1:=by omega
   simp [e2,e5,e6,m2,m5,tx,num,b9,f5,hlt,hle,g2,g3,g4,S1,a4h]
   rw [decide_eq_true hc]
   refine b01 sc (G4 r 63) fr true hf h1 (by have:=Z6 r 63;omega) h5 (j9 r 63) (by have:=R8 r 63;omega) _ ⟨?_,?_,?_,?_,?_⟩<;>simp [e2,e5,e6,m2,m5,f5,tx,num,j9,G4]
 · have hge:M8 r 63=r.length:=by have:=mt W3.1 hc;omega
   simp [e2,e5,e6,m2,m5,tx,num,b9,hge]
   rw [decide_eq_false hc,a1m hc,a96 hc]
   refine b01 sc [] fr false hf h1 (by simp) h5 r hr _ ⟨?_,?_,?_,?_,?_⟩<;>simp [e2,e5,e6,m2,m5,f5,tx,num]
theorem c0x (sc:Tx) (h1:sc.length < 1099511627776) (r:Tx) (hr:r.length < 1099511627776) (st:St)
 (h:UP st ⟨sc,[],[],0,[],[],[],false,false⟩ r):EC Tryz.prog ir200_from8 st (K:=prs (a5m sc r)):=by
 unfold ir200_from8
 obtain ⟨e2,e5,e6,m2,m5⟩:=h
 have hle:=a08 r 35
 have e:a5m sc r=a8z sc (G4 (j9 r 35) 63) (G4 r 35) (decide (63∈j9 r 35)) (decide (35∈r)) (j9 (j9 r 35) 63):=rfl
 rw [e]
 simp [e2,e5,e6,m2,m5,tx,num,b9]
 refine b7 rfl rfl (.inl rfl) (a11 r 35 hr) ?_
 by_cases hc:35∈r
 · have hlt:=W3.2 hc
   have g2:IntKind.i64.wrap ((M8 r 35:Nat)+1:Int)=((M8 r 35+1:Nat):Int):=by rw [wrap_i64 (by omega) (by omega)];omega
   have g3:M8 r 35+1≤r.length:=by omega
   have g4:(0:Int)≤((M8 r 35:Nat):Int)+1:=by omega
   simp [e2,e5,e6,m2,m5,tx,num,b9,f5,hlt,hle,g2,g3,g4,S1,a4h]
   rw [decide_eq_true hc]
   refine b2y sc (G4 r 35) true h1 (by have:=Z6 r 35;omega) (j9 r 35) (by have:=R8 r 35;omega) _ ⟨?_,?_,?_,?_,?_⟩<;>simp [e2,e5,e6,m2,m5,f5,tx,num,j9,G4]
 · have hge:M8 r 35=r.length:=by have:=mt W3.1 hc;omega
   simp [e2,e5,e6,m2,m5,tx,num,b9,hge]
   rw [decide_eq_false hc,a1m hc,a96 hc]
   refine b2y sc [] false h1 (by simp) r hr _ ⟨?_,?_,?_,?_,?_⟩<;>simp [e2,e5,e6,m2,m5,f5,tx,num]
theorem c0y (sc:Tx) (h1:sc.length < 1099511627776) (r:Tx) (hr:r.length < 1099511627776) (st:St)
 (h:UP st ⟨sc,[],[],0,[],[],[],false,false⟩ r):EC Tryz.prog ir200_from5 st (K:=prs (if a0o sc then if r.take 2=[47,47] then a5m sc (r.drop 2) else (LUrl.zero,false) else (⟨sc,[],[],0,j9 (j9 r 35) 63,[],[],false,false⟩,S0 ⟨sc,[],[],0,j9 (j9 r 35) 63,[],[],false,false⟩))):=by
 unfold ir200_from5
 obtain ⟨e2,e5,e6,m2,m5⟩:=h
 have e7:(⟨#[47,47]⟩:ByteArray)=bs [47,47]:=rfl
 simp [e2,e5,e6,m2,m5,tx,num,b9,f5]
 refine b7 rfl rfl (.inl rfl) (a8q sc) ?_
 by_cases hw:a0o sc=true
 · rw [if_pos hw]
   by_cases h2:r.length < 2
   · have h2':(r.length:Int) < 2:=by omega
     have ht:¬ r.take 2=[47,47]:=fun e=>by have:=congrArg List.length e;simp at this;omega
     rw [if_neg ht]
     simp [e2,e5,e6,m2,m5,tx,num,b9,f5,hw,h2']
     refine a03 _ ?_ ?_ ?_
     · simp [e2]
     · simp [f5,LUrl.zero,tx,num,bs]
     · simp
   · have h2':¬ (r.length:Int) < 2:=by omega
     have h2'':(2:Int)≤r.length:=by omega
     have h2n:2≤r.length:=by omega
     by_cases ht:r.take 2=[47,47]
     · rw [if_pos ht]
       simp [e2,e5,e6,m2,m5,tx,num,b9,f5,hw,h2',h2'',h2n,e7,S1,ht,a4h]
       refine c0x sc h1 (r.drop 2) (by simp;omega) _ ⟨?_,?_,?_,?_,?_⟩<;>simp [e2,e5,e6,m2,m5,f5,tx,num]
     · rw [if_neg ht]
       simp [e2,e5,e6,m2,m5,tx,num,b9,f5,hw,h2',h2'',h2n,e7,S1,L2,ht]
       refine a03 _ ?_ ?_ ?_
       · simp [e2]
       · simp [f5,LUrl.zero,tx,num,bs]
       · simp
 · rw [if_neg hw]
   have hl1:=a08 r 35
   have hl2:=a08 (j9 r 35) 63
   have hl3:=R8 r 35
   have hl4:=R8 (j9 r 35) 63
   simp [e2,e5,e6,m2,m5,tx,num,b9,f5,hw]
   refine b7 rfl rfl (.inl rfl) (a11 r 35 hr) ?_
   simp [e2,e5,e6,m2,m5,tx,num,b9,f5,hw,hl1,S1]
   refine b7 rfl rfl (.inl rfl) (a11 (j9 r 35) 63 (by omega)) ?_
   have hl2':M8 (j9 r 35) 63≤M8 r 35∧M8 (j9 r 35) 63≤r.length:=by
    refine ⟨?_,by omega⟩
    have:(j9 r 35).length≤M8 r 35:=by unfold j9;simp;omega
    omega
   have hl2i:((M8 (j9 r 35) 63:Nat):Int)≤(min (M8 r 35) r.length:Nat):=by omega
   simp [e2,e5,e6,m2,m5,tx,num,b9,f5,hw,hl1,hl2',S1,i6]
   refine A0 rfl rfl (.inl rfl) (c6r ⟨sc,[],[],0,j9 (j9 r 35) 63,[],[],false,false⟩ ⟨h1,by simp,by simp,by show (j9 (j9 r 35) 63).length < _;omega,by simp,by simp,by show (0:Int)≤_;omega⟩) ?_
   simp [e2,e5,e6,m2,m5,tx,num,b9,f5,hw,hl1,S1,i6]
   refine a7s (id:=2) ?_ ?_ ?_
   · simp [e2]
   · simp [f5,tx,num,j9]
   · simp
theorem b57 (t:Tx) (ht:t.length < 1099511627776):d8 Tryz.prog 200 [.val (tx t)] (.ret (a58 (H8 t)) []) []:=by
 refine f6 mixed ok200 rfl (fun _=>rfl) ?_
 unfold ir200
 rw [b6]
 have hle:=a08 t 58
 simp [d9,f9,j8,b8,d7,tx,num,b9]
 refine b7 rfl rfl (.inl rfl) (a11 t 58 ht) ?_
 by_cases hc:58∈t
 · have hlt:=W3.2 hc
   have hne:¬ ((M8 t 58:Nat):Int)=(t.length:Int):=by omega
   have hne':¬ M8 t 58=t.length:=by omega
   have g2:IntKind.i64.wrap ((M8 t 58:Nat)+1:Int)=((M8 t 58+1:Nat):Int):=by rw [wrap_i64 (by omega) (by omega)];omega
   have g3:M8 t 58+1≤t.length:=by omega
   have g4:(0:Int)≤((M8 t 58:Nat):Int)+1:=by omega
   simp [tx,num,b9,hlt,hle,hne,hne',S1]
   refine b7 rfl rfl (.inl rfl) (b58 (j9 t 58) (by have:=R8 t 58;omega)) ?_
   simp [tx,num,b9,hlt,hle,hne,hne',g2,g3,g4,S1,a4h]
   rw [show H8 t=(if a0o (R4 (j9 t 58)) then if (G4 t 58).take 2=[47,47] then a5m (R4 (j9 t 58)) ((G4 t 58).drop 2) else (LUrl.zero,false) else (⟨R4 (j9 t 58),[],[],0,j9 (j9 (G4 t 58) 35) 63,[],[],false,false⟩,S0 ⟨R4 (j9 t 58),[],[],0,j9 (j9 (G4 t 58) 35) 63,[],[],false,false⟩)) by unfold H8;rw [if_pos hc]]
   refine c0y (R4 (j9 t 58)) (by have:=R8 t 58;simp [R4];omega) (G4 t 58) (by have:=Z6 t 58;omega) _ ⟨?_,?_,?_,?_,?_⟩<;>simp [f5,tx,num,LUrl.zero,bs,G4]
 · have hge:M8 t 58=t.length:=by have:=mt W3.1 hc;omega
   rw [show H8 t=(LUrl.zero,false) by unfold H8;rw [if_neg hc]]
   simp [tx,num,b9,hge]
   refine a03 _ ?_ ?_ ?_
   · simp
   · simp [f5,LUrl.zero,tx,num,bs]
   · simp
end Go.Proofs
end
section
namespace Go.Proofs
open Go.PW Go.KP
attribute [local simp] RV.cells RV.one PV.cells PV.solid PV.one G1 i6 L8 K7 RV.ofCells elems PV.killL
variable [GF]
structure TO (st:St) (x:LTarget) (u:LUrl):Prop where
 e1:st.env 1=.ptr 1 0
 e3:st.env 3=.ptr 3 0
 m1:st.mem 1=.box [.val (tx x.url),.val (num x.prio),.val (num x.weight)]
 m3:st.mem 3=.box (f5 u)
section
variable {Ks:Kx (St→Prop)} {st:St} {x:LTarget} {u:LUrl} {b:Bool}
def tg35 (x:LTarget):Bool:=decide (1≤x.weight∧x.weight≤9)
theorem c9k (h:TO st x u) (hb:st.env 34=.val (.bool b)) (hK:∀ st',TO st' x u→st'.env 38=.val (.bool (b && tg35 x))→Ks.k st'):EX Tryz.prog ir231_o35 st (Ks:=Ks):=by
 unfold ir231_o35
 cases b with
 | false=>
  simp [hb]
  refine hK _ ⟨?_,?_,?_,?_⟩ ?_<;>simp [h.e1,h.e3,h.m1,h.m3]
 | true=>
  simp [hb,h.e1,h.m1,num]
  refine A0 rfl rfl (.inl rfl) (U0 .i64 x.weight 1 9) ?_
  simp [hb]
  refine hK _ ⟨?_,?_,?_,?_⟩ ?_<;>simp [h.e1,h.e3,h.m1,h.m3,tg35]
def tg30 (x:LTarget):Bool:=decide (1≤x.prio∧x.prio≤9) && tg35 x
theorem c9l (h:TO st x u) (hb:st.env 29=.val (.bool b)) (hK:∀ st',TO st' x u→st'.env 38=.val (.bool (b && tg30 x))→Ks.k st'):EX Tryz.prog ir231_o30 st (Ks:=Ks):=by
 unfold ir231_o30
 cases b with
 | false=>
  simp [hb]
  refine c9k (x:=x) (u:=u) (b:=false) ⟨?_,?_,?_,?_⟩ ?_ (fun st' q1 q2=>hK st' q1 (by simpa using q2))<;>simp [h.e1,h.e3,h.m1,h.m3]
 | true=>
  simp [hb,h.e1,h.m1,num]
  refine A0 rfl rfl (.inl rfl) (U0 .i64 x.prio 1 9) ?_
  simp [hb]
  refine c9k (x:=x) (u:=u) (b:=decide (1≤x.prio∧x.prio≤9)) ⟨?_,?_,?_,?_⟩ ?_ (fun st' q1 q2=>hK st' q1 (by rw [q2];simp [tg30]))<;>simp [h.e1,h.e3,h.m1,h.m3]
def tg23 (x:LTarget) (u:LUrl):Bool:=decide (X6 u=x.url) && tg30 x
theorem c9m (hs:u.Small) (h:TO st x u) (hb:st.env 22=.val (.bool b)) (hK:∀ st',TO st' x u→st'.env 38=.val (.bool (b && tg23 x u))→Ks.k st'):EX Tryz.prog ir231_o23 st (Ks:=Ks):=by
 unfold ir231_o23
 cases b with
 | false=>
  simp [hb]
  refine c9l (x:=x) (u:=u) (b:=false) ⟨?_,?_,?_,?_⟩ ?_ (fun st' q1 q2=>hK st' q1 (by simpa using q2))<;>simp [h.e1,h.e3,h.m1,h.m3]
 | true=>
  simp [hb,h.e1,h.m1,h.e3,h.m3,num,tx,f5,i6]
  refine A0 rfl rfl (.inl rfl) (b2j u hs) ?_
  simp [hb,h.e1,h.m1,num,tx,L2]
  refine c9l (x:=x) (u:=u) (b:=decide (X6 u=x.url)) ⟨?_,?_,?_,?_⟩ ?_ (fun st' q1 q2=>hK st' q1 (by rw [q2];simp [tg23]))<;>simp [h.e1,h.e3,h.m1,h.m3]
def tg18 (x:LTarget) (u:LUrl):Bool:=!u.hasF && tg23 x u
theorem c9n (hs:u.Small) (h:TO st x u) (hb:st.env 17=.val (.bool b)) (hK:∀ st',TO st' x u→st'.env 38=.val (.bool (b && tg18 x u))→Ks.k st'):EX Tryz.prog ir231_o18 st (Ks:=Ks):=by
 unfold ir231_o18
 cases b with
 | false=>
  simp [hb]
  refine c9m (x:=x) (u:=u) (b:=false) hs ⟨?_,?_,?_,?_⟩ ?_ (fun st' q1 q2=>hK st' q1 (by simpa using q2))<;>simp [h.e1,h.e3,h.m1,h.m3]
 | true=>
  simp [hb,h.e1,h.m1,h.e3,h.m3,num,tx,f5,i6]
  refine c9m (x:=x) (u:=u) (b:=!u.hasF) hs ⟨?_,?_,?_,?_⟩ ?_ (fun st' q1 q2=>hK st' q1 (by rw [q2];simp [tg18]))<;>simp [h.e1,h.e3,h.m1,h.m3,f5,tx,num]
end
theorem b3e (x:LTarget) (hx:x.url.length < 1099511627776):d8 Tryz.prog 231 [.val (f8 x)] (.ret (.val (.bool (P6 x))) []) []:=by
 refine f6 mixed ok231 rfl (fun _=>rfl) ?_
 unfold ir231
 rw [b6]
 have hs:=b1c hx
 simp [d9,f9,j8,b8,d7,f8,tx,num]
 have hp:=b57 x.url hx
 have e:P6 x=(((H8 x.url).2 && a0o (H8 x.url).1.scheme) && tg18 x (H8 x.url).1):=by
  unfold P6 tg18 tg23 tg30 tg35
  simp only [Bool.and_assoc]
 rw [e]
 generalize H8 x.url=r at *
 obtain ⟨u,ok⟩:=r
 dsimp only at *
 refine Y3 rfl rfl (.inl rfl) hp ?_
 simp [d9,f9,j8,b8,d7,X0,tx,num]
 cases ok with
 | false=>
  simp
  refine c9n (x:=x) (u:=u) (b:=false) hs ⟨?_,?_,?_,?_⟩ ?_ (fun st' q1 q2=>?_)
  all_goals simp [f5,tx,num]
  simp [q2,x9,F5,y4,F3,y5,q7,y0,F4,l6,A5,G6,G7,j6,p5,p6,l0,y6,p9,l2,F2,x8,p8,p7,D3,D4,a0u,a0v,Option.getD_some,Option.getD_none,C0,t8,o5,D0,o4,n7,D2,n8,D1,C9,C8,H1,w6,o2,C6,v8,o1,C5,B8,C7,w5,C3,n6,v7,C4,H3,H2,B9,C1,n9,C2,w7,o3,A8,l8,B7,B6,B5,G8,u9,m8,B3,u6,l9,B2,A6,B4,u7,B0,l7,u5,B1,H0,G9,A7,u4,n5,A9,v6,n0,J1,J0,K4,J2,J6,J4,J3,K3,J5,J7,J8,J9,K2,y9,y8,y7,M0,M1,z7,F6,u0,D8,x1,K6,q8,Q1,M4,L6,N6,N8,N7,Q2,Q3,I3,I5,I4,I6,I7,N3,x3,N2,D9,E1,E2,x4,a0x,E9,x7,P9,Q0,H4,M2,M3,Option.map_some,Option.map_none,E3,x5,w9,o6,D6,D7,H7,H6,O3,O2,I9,F0,F1,I8,N9,O0,H9,o8,I0,o7,M7,E8,E7,l1,N5,O1,I2,M9,N1,N0,x2,A2,A4,A3,k6,N4,Q5,Q4,M5,I1,U3,M6,o9,E5,E6,x6,E4,k9,u2,k8,u3,k7,K5,O4,O5,z1,z6,F8,F7,D5]
 | true=>
  simp
  refine A0 rfl rfl (.inl rfl) (a8q u.scheme) ?_
  simp
  refine c9n (x:=x) (u:=u) (b:=a0o u.scheme) hs ⟨?_,?_,?_,?_⟩ ?_ (fun st' q1 q2=>?_)
  all_goals simp [f5,tx,num]
  simp [q2,x9,F5,y4,F3,y5,q7,y0,F4,l6,A5,G6,G7,j6,p5,p6,l0,y6,p9,l2,F2,x8,p8,p7,D3,D4,a0u,a0v,Option.getD_some,Option.getD_none,C0,t8,o5,D0,o4,n7,D2,n8,D1,C9,C8,H1,w6,o2,C6,v8,o1,C5,B8,C7,w5,C3,n6,v7,C4,H3,H2,B9,C1,n9,C2,w7,o3,A8,l8,B7,B6,B5,G8,u9,m8,B3,u6,l9,B2,A6,B4,u7,B0,l7,u5,B1,H0,G9,A7,u4,n5,A9,v6,n0,J1,J0,K4,J2,J6,J4,J3,K3,J5,J7,J8,J9,K2,y9,y8,y7,M0,M1,z7,F6,u0,D8,x1,K6,q8,Q1,M4,L6,N6,N8,N7,Q2,Q3,I3,I5,I4,I6,I7,N3,x3,N2,D9,E1,E2,x4,a0x,E9,x7,P9,Q0,H4,M2,M3,Option.map_some,Option.map_none,E3,x5,w9,o6,D6,D7,H7,H6,O3,O2,I9,F0,F1,I8,N9,O0,H9,o8,I0,o7,M7,E8,E7,l1,N5,O1,I2,M9,N1,N0,x2,A2,A4,A3,k6,N4,Q5,Q4,M5,I1,U3,M6,o9,E5,E6,x6,E4,k9,u2,k8,u3,k7,K5,O4,O5,z1,z6,F8,F7,D5]
def T0 (x:LPeer):List PV:=[.val (tx x.target.url),.val (num x.target.prio),.val (num x.target.weight),.val (num x.fails),.val (num x.retry),.val (.bool x.gone)]
structure PO (st:St) (l:List LPeer) (i:Nat) (x:LPeer):Prop where
 e0:st.env 0=.val (P3 l)
 e3:st.env 3=.val (num i)
 e4:st.env 4=.ptr 4 0
 m4:st.mem 4=.box (T0 x)
section
variable {Ks:Kx (St→Prop)} {kx:Kx (RV→St→Prop)} {st:St} {l:List LPeer} {i:Nat} {x:LPeer} {b:Bool}
def b6v (x:LPeer):Bool:=decide (x.fails=0) && !decide (x.retry=0)
theorem c92 (h:PO st l i x) (hb:st.env 35=.val (.bool b)) (hK:∀ st',PO st' l i x→st'.env 44=.val (.bool (b || b6v x))→Ks.k st'):EO Tryz.prog ir171_o36 st (Ks:=Ks) (kx:=kx):=by
 unfold ir171_o36
 cases b with
 | true=>
  simp [hb]
  refine hK _ ⟨?_,?_,?_,?_⟩ ?_<;>simp [h.e0,h.e3,h.e4,h.m4]
 | false=>
  by_cases h0:x.fails=0
  · by_cases h1:x.retry=0
    · simp [hb,h.e4,h.m4,T0,num,h0,h1]
      refine hK _ ⟨?_,?_,?_,?_⟩ ?_<;>simp [h.e0,h.e3,h.e4,h.m4,b6v,h0,h1]
    · simp [hb,h.e4,h.m4,T0,num,h0,h1]
      refine hK _ ⟨?_,?_,?_,?_⟩ ?_<;>simp [h.e0,h.e3,h.e4,h.m4,b6v,h0,h1]
  · simp [hb,h.e4,h.m4,T0,num,h0]
    refine hK _ ⟨?_,?_,?_,?_⟩ ?_<;>simp [h.e0,h.e3,h.e4,h.m4,b6v,h0]
def c7c (x:LPeer):Bool:=!decide (0≤x.retry∧x.retry≤1000032) || b6v x
theorem c93 (h:PO st l i x) (hb:st.env 29=.val (.bool b)) (hK:∀ st',PO st' l i x→st'.env 44=.val (.bool (b || c7c x))→Ks.k st'):EO Tryz.prog ir171_o30 st (Ks:=Ks) (kx:=kx):=by
 unfold ir171_o30
 cases b with
 | true=>
  simp [hb]
  refine c92 (l:=l) (i:=i) (x:=x) (b:=true) ⟨?_,?_,?_,?_⟩ ?_ (fun st' q1 q2=>hK st' q1 (by simpa using q2))<;>simp [h.e0,h.e3,h.e4,h.m4]
 | false=>
  simp [hb,h.e4,h.m4,T0,num]
  refine b7 rfl rfl (.inl rfl) (U0 .i64 x.retry 0 1000032) ?_
  simp [hb]
  refine c92 (l:=l) (i:=i) (x:=x) (b:=!decide (0≤x.retry∧x.retry≤1000032)) ⟨?_,?_,?_,?_⟩ ?_ (fun st' q1 q2=>hK st' q1 (by rw [q2];simp [c7c]))<;>simp [h.e0,h.e3,h.e4,h.m4]
def c3r (x:LPeer):Bool:=!decide (0≤x.fails∧x.fails≤1000000) || c7c x
theorem pops24 (h:PO st l i x) (hb:st.env 23=.val (.bool b)) (hK:∀ st',PO st' l i x→st'.env 44=.val (.bool (b || c3r x))→Ks.k st'):EO Tryz.prog ir171_o24 st (Ks:=Ks) (kx:=kx):=by
 unfold ir171_o24
 cases b with
 | true=>
  simp [hb]
  refine c93 (l:=l) (i:=i) (x:=x) (b:=true) ⟨?_,?_,?_,?_⟩ ?_ (fun st' q1 q2=>hK st' q1 (by simpa using q2))<;>simp [h.e0,h.e3,h.e4,h.m4]
 | false=>
  simp [hb,h.e4,h.m4,T0,num]
  refine b7 rfl rfl (.inl rfl) (U0 .i64 x.fails 0 1000000) ?_
  simp [hb]
  refine c93 (l:=l) (i:=i) (x:=x) (b:=!decide (0≤x.fails∧x.fails≤1000000)) ⟨?_,?_,?_,?_⟩ ?_ (fun st' q1 q2=>hK st' q1 (by rw [q2];simp [c3r]))<;>simp [h.e0,h.e3,h.e4,h.m4]
end
theorem b5a (x:LPeer):a4q x=!(!P6 x.target || c3r x):=by
 unfold a4q c3r c7c b6v
 cases P6 x.target<;>cases decide (0≤x.fails∧x.fails≤1000000)<;>cases decide (0≤x.retry∧x.retry≤1000032)<;>by_cases h:x.retry=0<;>simp [h]
theorem b0y {l:List LPeer} {j:Nat} (h:j < l.length):((l.map F9).getD j .nilptr)=F9 l[j]:=by
 rw [a4t _ _ _ (by simpa using h)];simp
theorem c0v {K:Kx (PExit→St→Prop)} {st:St} {l:List LPeer} {i:Nat} {x:LPeer} (hi:i < l.length) (hl:l.length < 1099511627776) (h:PO st l i x) (h5:st.env 5=.val (num 0))
 (hK:∀ st',PO st' l i x→x.target.url∉(l.take i).map (fun p=>p.target.url)→K.k .normal st') (hR:∀ st',st'.env 2=.val (.bool false)→x.target.url∈(l.take i).map (fun p=>p.target.url)→K.k .ret st') :
 EC Tryz.prog ir171_s45 st (K:=K):=by
 unfold ir171_s45
 simp only [x9,F5,y4,F3,y5,q7,y0,F4,l6,A5,G6,G7,j6,p5,p6,l0,y6,p9,l2,F2,x8,p8,p7,D3,D4,a0u,a0v,Option.getD_some,Option.getD_none,C0,t8,o5,D0,o4,n7,D2,n8,D1,C9,C8,H1,w6,o2,C6,v8,o1,C5,B8,C7,w5,C3,n6,v7,C4,H3,H2,B9,C1,n9,C2,w7,o3,A8,l8,B7,B6,B5,G8,u9,m8,B3,u6,l9,B2,A6,B4,u7,B0,l7,u5,B1,H0,G9,A7,u4,n5,A9,v6,n0,J1,J0,K4,J2,J6,J4,J3,K3,J5,J7,J8,J9,K2,y9,y8,y7,M0,M1,z7,F6,u0,D8,x1,K6,q8,Q1,M4,L6,N6,N8,N7,Q2,Q3,I3,I5,I4,I6,I7,N3,x3,N2,D9,E1,E2,x4,a0x,E9,x7,P9,Q0,H4,M2,M3,Option.map_some,Option.map_none,E3,x5,w9,o6,D6,D7,H7,H6,O3,O2,I9,F0,F1,I8,N9,O0,H9,o8,I0,o7,M7,E8,E7,l1,N5,O1,I2,M9,N1,N0,x2,A2,A4,A3,k6,N4,Q5,Q4,M5,I1,U3,M6,o9,E5,E6,x6,E4,k9,u2,k8,u3,k7,K5,O4,O5,z1,z6,F8,F7,D5]
 refine j7 (X:=Nat) (fun j=>⟨t6 [(0,.val (P3 l)),(3,.val (num i)),(4,.ptr 4 0),(5,.val (num j))],u1 [(4,.box (T0 x))]⟩) (fun j=>j≤i∧∀ k (hk:k < j) (hk':k < l.length),l[k].target.url≠x.target.url) (fun j=>i - j) 0 (Le.mk _ _ ?_ ?_) ?_ ?_
 · simp [h.e0,h.e3,h.e4,h5]
 · simp [h.m4]
 · simp
 · rintro j ⟨hj,hne⟩
   unfold ir171_l45
   simp [num,P3,T0]
   refine f7 (fun h1=>?_) (fun h1=>?_)
   · have hjl:j < l.length:=by omega
     have e:=b0y hjl
     rw [List.getD_eq_getElem?_getD] at e
     simp [num,P3,T0,e,h1,hjl,F9,tx,L2]
     by_cases hu:l[j].target.url=x.target.url
     · refine f7 (fun _=>?_) (fun h=>absurd hu h)
       simp
       refine hR _ (by simp) ?_
       rw [List.mem_map]
       exact ⟨l[j],by rw [List.mem_take_iff_getElem];exact ⟨j,by omega,rfl⟩,hu⟩
     · refine f7 (fun h=>absurd h hu) (fun _=>?_)
       simp
       refine LoopNext.mk (j+1) ⟨by omega,fun k hk hk'=>?_⟩ (by omega) (Le.mk _ _ ?_ ?_)
       · by_cases e:k=j
         · subst e;exact hu
         · exact hne k (by omega) hk'
       · simp [num,P3];rw [wrap_i64 (by omega) (by omega)]
       · simp [T0,num,tx]
   · have e:j=i:=by omega
     simp
     refine hK _ ⟨?_,?_,?_,?_⟩ ?_
     · simp [P3]
     · simp [num]
     · simp
     · simp [T0,num]
     · intro hm
       rw [List.mem_map] at hm
       obtain ⟨p,hp,hpu⟩:=hm
       rw [List.mem_take_iff_getElem] at hp
       obtain ⟨k,hk,rfl⟩:=hp
       exact hne k (by omega) (by omega) hpu
theorem c_l07OK (l:List LPeer) (hl:l.length < 1099511627776) (hs:∀ p∈l,p.target.url.length < 1099511627776):d8 Tryz.prog 171 [.val (P3 l)] (.ret (.val (.bool (a0d l))) []) []:=by
 refine f6 mixed ok171 rfl (fun _=>rfl) ?_
 unfold ir171
 rw [b6]
 by_cases h4:4 < l.length
 · have h4':(4:Int) < l.length:=by omega
   have e:a0d l=false:=by
    unfold a0d
    rw [decide_eq_false (by omega)];rfl
   simp [d9,f9,j8,b8,d7,P3,h4',e]
 · have h4':¬ (4:Int) < l.length:=by omega
   have e:a0d l=(l.all a4q && T4 [] l):=by
    unfold a0d
    rw [decide_eq_true (by omega)];rfl
   rw [e]
   simp [d9,f9,j8,b8,d7,P3,h4']
   refine j7 (X:=Nat) (fun i=>⟨t6 [(0,.val (P3 l)),(3,.val (num i))],u1 []⟩) (fun i=>i≤l.length∧(l.take i).all a4q=true∧T4 [] (l.take i)=true) (fun i=>l.length - i) 0 (Le.mk _ _ ?_ ?_) ?_ ?_
   · simp [upd,P3,num]
   · simp
   · simp [T4]
   · rintro i ⟨hi,ha,hu⟩
     unfold ir171_l9
     simp [num,P3]
     refine f7 (fun h1=>?_) (fun h1=>?_)
     · have e1:=b0y h1
       rw [List.getD_eq_getElem?_getD] at e1
       simp [num,P3,h1,e1,F9,tx]
       unfold ir171_s19
       simp [num,P3,i6,tx]
       refine b7 rfl rfl (.inl rfl) (b3e l[i].target (hs _ (List.getElem_mem h1))) ?_
       simp
       refine pops24 (l:=l) (i:=i) (x:=l[i]) (b:=!P6 l[i].target) ⟨?_,?_,?_,?_⟩ ?_ (fun st' q1 q2=>?_)
       · simp [P3]
       · simp [num]
       · simp
       · simp [T0,num,tx]
       · simp
       · have hpk:=b5a l[i]
         simp only [x9,F5,y4,F3,y5,q7,y0,F4,l6,A5,G6,G7,j6,p5,p6,l0,y6,p9,l2,F2,x8,p8,p7,D3,D4,a0u,a0v,Option.getD_some,Option.getD_none,C0,t8,o5,D0,o4,n7,D2,n8,D1,C9,C8,H1,w6,o2,C6,v8,o1,C5,B8,C7,w5,C3,n6,v7,C4,H3,H2,B9,C1,n9,C2,w7,o3,A8,l8,B7,B6,B5,G8,u9,m8,B3,u6,l9,B2,A6,B4,u7,B0,l7,u5,B1,H0,G9,A7,u4,n5,A9,v6,n0,J1,J0,K4,J2,J6,J4,J3,K3,J5,J7,J8,J9,K2,y9,y8,y7,M0,M1,z7,F6,u0,D8,x1,K6,q8,Q1,M4,L6,N6,N8,N7,Q2,Q3,I3,I5,I4,I6,I7,N3,x3,N2,D9,E1,E2,x4,a0x,E9,x7,P9,Q0,H4,M2,M3,Option.map_some,Option.map_none,E3,x5,w9,o6,D6,D7,H7,H6,O3,O2,I9,F0,F1,I8,N9,O0,H9,o8,I0,o7,M7,E8,E7,l1,N5,O1,I2,M9,N1,N0,x2,A2,A4,A3,k6,N4,Q5,Q4,M5,I1,U3,M6,o9,E5,E6,x6,E4,k9,u2,k8,u3,k7,K5,O4,O5,z1,z6,F8,F7,D5,q2]
         cases hb:(!P6 l[i].target || c3r l[i]) with
         | true=>
          rw [hb] at hpk
          have:l.all a4q=false:=by rw [List.all_eq_false];exact ⟨l[i],List.getElem_mem h1,by rw [hpk];simp⟩
          rw [this]
          simp
         | false=>
          rw [hb] at hpk
          refine f7 (fun h=>by cases h) (fun _=>?_)
          simp only [x9,F5,y4,F3,y5,q7,y0,F4,l6,A5,G6,G7,j6,p5,p6,l0,y6,p9,l2,F2,x8,p8,p7,D3,D4,a0u,a0v,Option.getD_some,Option.getD_none,C0,t8,o5,D0,o4,n7,D2,n8,D1,C9,C8,H1,w6,o2,C6,v8,o1,C5,B8,C7,w5,C3,n6,v7,C4,H3,H2,B9,C1,n9,C2,w7,o3,A8,l8,B7,B6,B5,G8,u9,m8,B3,u6,l9,B2,A6,B4,u7,B0,l7,u5,B1,H0,G9,A7,u4,n5,A9,v6,n0,J1,J0,K4,J2,J6,J4,J3,K3,J5,J7,J8,J9,K2,y9,y8,y7,M0,M1,z7,F6,u0,D8,x1,K6,q8,Q1,M4,L6,N6,N8,N7,Q2,Q3,I3,I5,I4,I6,I7,N3,x3,N2,D9,E1,E2,x4,a0x,E9,x7,P9,Q0,H4,M2,M3,Option.map_some,Option.map_none,E3,x5,w9,o6,D6,D7,H7,H6,O3,O2,I9,F0,F1,I8,N9,O0,H9,o8,I0,o7,M7,E8,E7,l1,N5,O1,I2,M9,N1,N0,x2,A2,A4,A3,k6,N4,Q5,Q4,M5,I1,U3,M6,o9,E5,E6,x6,E4,k9,u2,k8,u3,k7,K5,O4,O5,z1,z6,F8,F7,D5]
          refine c0v (x:=l[i]) h1 hl ⟨?_,?_,?_,?_⟩ ?_ (fun st'' r1 r2=>?_) (fun st'' r1 r2=>?_)
          · simp [q1.e0]
          · simp [q1.e3]
          · simp [q1.e4]
          · simp [q1.m4]
          · simp [num]
          · simp [r1.e3,num]
            refine LoopNext.mk (i+1) ⟨by omega,?_,?_⟩ (by omega) (Le.mk _ _ ?_ ?_)
            · rw [R9 _ _ _ h1,ha,hpk];rfl
            · rw [a6v l i h1,hu,decide_eq_true r2];rfl
            · simp [r1.e0,num,P3];rw [wrap_i64 (by omega) (by omega)]
            · simp
          · have:T4 [] l=false:=a3n l (i+1) (by rw [a6v l i h1,hu,decide_eq_false (fun h=>h r2)];rfl)
            rw [this]
            simp [r1]
     · have e1:i=l.length:=by omega
       subst e1
       rw [List.take_length] at ha hu
       rw [ha,hu]
       simp
end Go.Proofs
end
section
namespace Go.Proofs
open Go.PW Go.KP
variable [GF]
theorem b3f (c:UInt8):d8 Tryz.prog 234 [.val (rvb c)] (.ret (.val (.bool (a1n c))) []) []:=by
 refine f6 mixed ok234 rfl (fun _=>rfl) ?_
 unfold ir234
 rw [b6]
 have e1:((97:Int)≤c.toNat)↔97≤c.toNat:=by omega
 have e2:((c.toNat:Int)≤122)↔c.toNat≤122:=by omega
 have e3:((65:Int)≤c.toNat)↔65≤c.toNat:=by omega
 have e4:((c.toNat:Int)≤90)↔c.toNat≤90:=by omega
 have e5:((c.toNat:Int)=95)↔c.toNat=95:=by omega
 by_cases h1:97≤c.toNat<;>by_cases h2:c.toNat≤122<;>by_cases h3:65≤c.toNat<;>by_cases h4:c.toNat≤90<;>by_cases h5:c.toNat=95<;>first | (exfalso;omega) | simp [d9,f9,j8,b8,d7,rvb,a1n,P4,isUp,e1,e2,e3,e4,e5,h1,h2,h3,h4,h5]
theorem a5o {c:UInt8} (h:a1n c=true):a3o c=true:=by simp [a3o,h]
theorem b2k (t:Tx) (ht:t.length < 1099511627776):d8 Tryz.prog 173 [.val (tx t)] (.ret (.val (.bool (a1e t))) []) []:=by
 refine f6 mixed ok173 rfl (fun _=>rfl) ?_
 unfold ir173
 rw [b6]
 by_cases h1:t.length < 1
 · have:a1e t=false:=by unfold a1e;rw [decide_eq_false (by omega)];rfl
   have h1':(t.length:Int) < 1:=by omega
   simp [d9,f9,j8,b8,d7,tx,b9,h1',this]
 by_cases h2:12 < t.length
 · have h1':¬ (t.length:Int) < 1:=by omega
   have h2':(12:Int) < t.length:=by omega
   have:a1e t=false:=by unfold a1e;rw [decide_eq_false (by omega)];rfl
   simp [d9,f9,j8,b8,d7,tx,b9,h1',h2',this]
 have h1':¬ (t.length:Int) < 1:=by omega
 have h2':¬ (12:Int) < t.length:=by omega
 have h0:0 < t.length:=by omega
 have hw:a1e t=X4 a1n a3o t:=by unfold a1e;rw [decide_eq_true (by omega)];rfl
 simp [d9,f9,j8,b8,d7,tx,b9,h1',h2',j4,h0]
 refine b7 rfl rfl (.inl rfl) (b3f t[0]) ?_
 cases hl:a1n t[0] with
 | false=>
  have:a1e t=false:=by rw [hw];exact a2h t 0 h0 (by rw [if_pos rfl];exact hl)
  simp [this]
 | true=>
  have hst:=a3h (p:=a1n) (q:=a3o) (fun _ h=>a5o h) t 0 h0
  simp
  refine j7 (X:=Nat) (fun i=>⟨t6 [(0,.val (.str (bs t))),(3,.val (.int .i64 i))],u1 []⟩) (fun i=>1≤i∧i≤t.length∧X4 a1n a3o (t.take i)=true) (fun i=>t.length - i) 1 (Le.mk _ _ ?_ ?_) ?_ ?_
  · simp [upd]
  · simp
  · refine ⟨Nat.le_refl _,h0,?_⟩
    rw [hst,if_pos rfl,hl];simp [X4]
  · rintro i ⟨hi1,hi,hall⟩
    have hi0:i≠0:=by omega
    simp [b9,j4]
    refine f7 (fun h3=>?_) (fun h3=>?_)
    · have hstep:=a3h (p:=a1n) (q:=a3o) (fun _ h=>a5o h) t i h3
      rw [hall,Bool.true_and,if_neg hi0] at hstep
      have G5:=a2h (p:=a1n) (q:=a3o) t i h3
      rw [if_neg hi0] at G5
      simp [b9,j4,h3]
      refine b7 rfl rfl (.inl rfl) (b3f t[i]) ?_
      cases hlt:a1n t[i] with
      | true=>
       simp
       refine LoopNext.mk (i+1) ⟨by omega,by omega,by rw [hstep];exact a5o hlt⟩ (by omega) (Le.mk _ _ ?_ ?_)
       · simp;exact wrap_i64 (by omega) (by omega)
       · simp
      | false=>
       simp [b9,j4,h3]
       refine b7 rfl rfl (.inl rfl) (a5c t[i]) ?_
       cases hd:P2 t[i] with
       | true=>
        simp
        refine LoopNext.mk (i+1) ⟨by omega,by omega,by rw [hstep];simp [a3o,hd]⟩ (by omega) (Le.mk _ _ ?_ ?_)
        · simp;exact wrap_i64 (by omega) (by omega)
        · simp
       | false=>
        have:a1e t=false:=by rw [hw];exact G5 (by simp [a3o,hd,hlt])
        simp [this]
    · have e:i=t.length:=by omega
      subst e
      rw [List.take_length] at hall
      simp [hw,hall]
end Go.Proofs
end
