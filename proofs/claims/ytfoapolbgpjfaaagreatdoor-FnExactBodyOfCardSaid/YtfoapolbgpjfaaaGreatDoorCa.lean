/- Ca: merged out of KSa, KSb, KSc, KSd, KSe, KSr, KSk. -/
import Derived.Test.YtfoapolbgpjfaaaGreatDoorBa
import Derived.Test.YtfoapolbgpjfaaaGreatDoorAc
set_option linter.unusedSectionVars false
set_option linter.unusedSimpArgs false
set_option linter.unusedVariables false
set_option maxRecDepth 100000
section
namespace Go.Proofs
open Go.PW Go.KP
attribute [local simp] RV.cells RV.one PV.cells PV.solid PV.one o9 d9 l4 l0 RV.ofCells elems PV.killL
theorem mixed:Tryz.prog.follows .mixedOrders=true:=by kernel_rfl
variable [GF]
theorem a2v (k:IntKind) (a lo hi:Int):f9 Tryz.prog 129 [.val (.int k a),.val (.int k lo),.val (.int k hi)] (.ret (.val (.bool (decide (lo≤a∧a≤hi)))) []) []:=by
 refine f8 mixed ok129 rfl (fun _=>rfl) ?_
 unfold ir129
 rw [d8]
 by_cases h:lo≤a
 · simp [f7,j4,k9,d7,f5,h]
 · simp [f7,j4,k9,d7,f5,h]
theorem W3 (t:Tx) (c:UInt8) (ht:t.length < 1099511627776):f9 Tryz.prog 198 [.val (tx t),.val (rvb c)] (.ret (.val (num (k8 t c))) []) []:=by
 refine f8 mixed ok198 rfl (fun _=>rfl) ?_
 unfold ir198
 rw [d8]
 simp only [B8,J2,C0,J0,C1,x3,B9,J1,p7,D9,L6,L7,l3,w7,w8,o2,C2,x2,o4,I9,B7,x1,w9,H0,H1,a4s,a4t,Option.getD_some,Option.getD_none,F7,x8,u7,G7,u6,u0,G9,u1,G8,G6,G5,M1,A7,u4,G3,A5,u3,G2,F5,G4,A6,G0,t8,A4,G1,M3,M2,F6,F8,u2,F9,A8,u5,E5,p9,F4,F3,F2,L8,A2,q8,F0,A0,q7,E9,E3,F1,A1,E7,p8,z8,E8,M0,L9,E4,z7,s9,E6,A3,q9,O0,N9,P1,O1,O5,O3,O2,P0,O4,O6,O7,O8,O9,C5,C4,C3,R8,R9,n5,J3,y0,H5,B0,P3,x6,X7,S3,K2,T6,T8,T7,X8,X9,N2,N4,N3,N5,N6,T3,B2,T2,H7,H8,H9,B3,a42,I6,B6,X5,X6,M4,S0,S1,Option.map_some,Option.map_none,I0,B4,A9,u9,H3,H4,M6,M5,U3,U2,N8,I7,I8,N7,T9,U0,M8,v8,M9,v7,S8,I5,I4,o3,T5,U1,N1,S9,T1,T0,B1,D6,D8,D7,n6,T4,Y1,Y0,S6,N0,a1f,S7,w6,I2,I3,B5,I1,o1,y9,n8,z6,n7,P2,U5,U6,C6,C7,J5,J4,H2,f7,j4,k9,d7,f5,tx,rvb,num]
 refine y8 (X:=Nat) (fun i=>⟨D2 [(0,.val (.str (bs t))),(1,.val (.int .u8 c.toNat)),(5,.val (.int .i64 i))],D0 []⟩) (fun i=>i≤t.length∧∀ k,k < i→t.getD k 0≠c) (fun i=>t.length - i) 0 (Le.mk _ _ ?_ ?_) ?_ ?_
 · simp [upd]
 · simp
 · simp
 · rintro i ⟨hi,hne⟩
   simp [b7,f6,u8_eq]
   refine j7 (fun h1=>?_) (fun h1=>?_)
   · simp [b7,f6,u8_eq,h1]
     refine j7 (fun h2=>?_) (fun h2=>?_)
     · simp
       rw [b2r t c i hi hne (.inr (by rw [a1s _ _ _ h1];exact h2))];rfl
     · simp
       refine LoopNext.mk (i+1) ⟨by omega,fun k hk=>?_⟩ (by omega) (Le.mk _ _ ?_ ?_)
       · by_cases e:k=i
         · subst e;simpa [List.getElem?_eq_getElem h1] using h2
         · simpa using hne k (by omega)
       · simp [n5,y0];rw [wrap_i64 (by omega) (by omega)]
       · simp
   · have e:i=t.length:=by omega
     simp [b7]
     rw [b2r t c i hi hne (.inl e),e];rfl
theorem a2b (t:Tx):f9 Tryz.prog 200 [.val (tx t)] (.ret (.val (.bool (K7 t))) []) []:=by
 refine f8 mixed ok200 rfl (fun _=>rfl) ?_
 unfold ir200
 rw [d8]
 have e1:(⟨#[104,116,116,112]⟩:ByteArray)=bs a2z:=rfl
 have e2:(⟨#[104,116,116,112,115]⟩:ByteArray)=bs a4l:=rfl
 by_cases h:t=a2z
 · simp [f7,j4,k9,d7,f5,tx,e1,e2,l5,K7,h]
 · by_cases h':t=a4l
   · subst h'
     simp [f7,j4,k9,d7,f5,tx,e1,e2,l5,K7,show ¬ a4l=a2z by decide]
   · simp [f7,j4,k9,d7,f5,tx,e1,e2,l5,K7,h,h']
theorem a9a (t:Tx):f9 Tryz.prog 241 [.val (tx t)] (.ret (.val (num (R2 t))) []) []:=by
 refine f8 mixed ok241 rfl (fun _=>rfl) ?_
 unfold ir241
 rw [d8]
 have e1:(⟨#[104,116,116,112]⟩:ByteArray)=bs a2z:=rfl
 by_cases h:t=a2z
 · simp [f7,j4,k9,d7,f5,tx,e1,l5,R2,h,num]
 · simp [f7,j4,k9,d7,f5,tx,e1,l5,R2,h,num]
theorem a2w (c:UInt8):f9 Tryz.prog 215 [.val (rvb c)] (.ret (.val (.bool (o5 c))) []) []:=by
 refine f8 mixed ok215 rfl (fun _=>rfl) ?_
 unfold ir215
 rw [d8]
 have e1:((48:Int)≤c.toNat)↔48≤c.toNat:=by omega
 have e2:((c.toNat:Int)≤57)↔c.toNat≤57:=by omega
 by_cases h:48≤c.toNat
 · simp [f7,j4,k9,d7,f5,rvb,o5,h,e1,e2]
 · simp [f7,j4,k9,d7,f5,rvb,o5,h,e1,e2]
theorem b4i {c:UInt8} (h1:65≤c.toNat) (h2:c.toNat≤90):(c.toNat:Int)+32=((c+32).toNat:Int):=by
 rw [UInt8.toNat_add]
 simp
 omega
theorem a9c (t:Tx) (ht:t.length < 1099511627776):f9 Tryz.prog 133 [.val (tx t)] (.ret (.val (tx (o8 t))) []) []:=by
 refine f8 mixed ok133 rfl (fun _=>rfl) ?_
 unfold ir133
 rw [d8]
 simp only [B8,J2,C0,J0,C1,x3,B9,J1,p7,D9,L6,L7,l3,w7,w8,o2,C2,x2,o4,I9,B7,x1,w9,H0,H1,a4s,a4t,Option.getD_some,Option.getD_none,F7,x8,u7,G7,u6,u0,G9,u1,G8,G6,G5,M1,A7,u4,G3,A5,u3,G2,F5,G4,A6,G0,t8,A4,G1,M3,M2,F6,F8,u2,F9,A8,u5,E5,p9,F4,F3,F2,L8,A2,q8,F0,A0,q7,E9,E3,F1,A1,E7,p8,z8,E8,M0,L9,E4,z7,s9,E6,A3,q9,O0,N9,P1,O1,O5,O3,O2,P0,O4,O6,O7,O8,O9,C5,C4,C3,R8,R9,n5,J3,y0,H5,B0,P3,x6,X7,S3,K2,T6,T8,T7,X8,X9,N2,N4,N3,N5,N6,T3,B2,T2,H7,H8,H9,B3,a42,I6,B6,X5,X6,M4,S0,S1,Option.map_some,Option.map_none,I0,B4,A9,u9,H3,H4,M6,M5,U3,U2,N8,I7,I8,N7,T9,U0,M8,v8,M9,v7,S8,I5,I4,o3,T5,U1,N1,S9,T1,T0,B1,D6,D8,D7,n6,T4,Y1,Y0,S6,N0,a1f,S7,w6,I2,I3,B5,I1,o1,y9,n8,z6,n7,P2,U5,U6,C6,C7,J5,J4,H2,f7,j4,k9,d7,f5,tx,elems]
 refine y8 (X:=Nat) (fun i=>⟨D2 [(0,.val (.str (bs t))),(3,.own 6),(4,.val (.int .i64 i))],D0 [(6,.row 5 1 ((o8 (t.take i)).map rvb))]⟩) (fun i=>i≤t.length) (fun i=>t.length - i) 0 (Le.mk _ _ ?_ ?_) ?_ ?_
 · simp [upd,PV.kill]
 · simp [upd,o8]
 · simp
 · rintro i hi
   simp [b7,f6,elems]
   refine j7 (fun h1=>?_) (fun h1=>?_)
   · have hnext:∀ st':St,st'.env 0=.val (.str (bs t))→st'.env 3=.own 6→st'.env 4=.val (.int .i64 ((i:Int)+1))→st'.mem 6=.row 5 1 ((o8 (t.take i)).map rvb++[rvb (b2o (t.getD i 0))]) →
      ∃ x',x'≤t.length∧t.length - x' < t.length - i∧Le st' ⟨D2 [(0,.val (.str (bs t))),(3,.own 6),(4,.val (.int .i64 (x':Int)))],D0 [(6,.row 5 1 ((o8 (t.take x')).map rvb))]⟩:=fun st' q1 q2 q3 q4=>by
      refine ⟨i+1,by omega,by omega,Le.mk _ _ ?_ ?_⟩
      · simp [q1,q2,q3]
      · simp only [List.mem_singleton,forall_eq,q4]
        rw [a99 t i 0 h1]
        simp [o8]
     have hlen:(o8 (t.take i)).length=i:=by simp [o8];omega
     have e1:((65:Int)≤(t[i].toNat:Int))↔65≤t[i].toNat:=by omega
     have e2:((t[i].toNat:Int)≤90)↔t[i].toNat≤90:=by omega
     by_cases h2:65≤t[i].toNat
     · by_cases h3:t[i].toNat≤90
       · simp [b7,f6,h1,e1,e2,h2,h3,hlen]
         refine ⟨by omega,by omega,hnext _ ?_ ?_ ?_ ?_⟩
         · simp [n5]
         · simp [n5]
         · simp [n5];exact wrap_i64 (by omega) (by omega)
         · rw [a1s _ _ _ h1]
           simp [n5,rvb,b2o,h2,h3]
           rw [b4i h2 h3]
           have:=(t[i]+32).toNat_lt
           rw [a7d (by omega) (by omega)]
           omega
       · simp [b7,f6,h1,e1,e2,h2,h3,hlen]
         refine ⟨by omega,by omega,hnext _ ?_ ?_ ?_ ?_⟩
         · simp [n5]
         · simp [n5]
         · simp [n5];exact wrap_i64 (by omega) (by omega)
         · rw [a1s _ _ _ h1]
           simp [n5,rvb,b2o,h2,h3]
     · simp [b7,f6,h1,e1,e2,h2,hlen]
       refine ⟨by omega,by omega,hnext _ ?_ ?_ ?_ ?_⟩
       · simp [n5]
       · simp [n5]
       · simp [n5];exact wrap_i64 (by omega) (by omega)
       · rw [a1s _ _ _ h1]
         simp [n5,rvb,b2o,h2]
   · have e:i=t.length:=by omega
     subst e
     have e1:(o8 t).map rvb=(o8 (t.take t.length)).map rvb:=by simp
     simp [b7]
     exact ⟨fun x _=>rfl,by rw [b3m];rfl⟩
theorem a34 (t wo:Tx) (ht:t.length < 1099511627776) (hw:wo.length < 1099511627776):f9 Tryz.prog 269 [.val (tx t),.val (tx wo)] (.ret (.val (.bool (P8 t wo))) []) []:=by
 refine f8 mixed ok269 rfl (fun _=>rfl) ?_
 unfold ir269
 rw [d8]
 simp only [B8,J2,C0,J0,C1,x3,B9,J1,p7,D9,L6,L7,l3,w7,w8,o2,C2,x2,o4,I9,B7,x1,w9,H0,H1,a4s,a4t,Option.getD_some,Option.getD_none,F7,x8,u7,G7,u6,u0,G9,u1,G8,G6,G5,M1,A7,u4,G3,A5,u3,G2,F5,G4,A6,G0,t8,A4,G1,M3,M2,F6,F8,u2,F9,A8,u5,E5,p9,F4,F3,F2,L8,A2,q8,F0,A0,q7,E9,E3,F1,A1,E7,p8,z8,E8,M0,L9,E4,z7,s9,E6,A3,q9,O0,N9,P1,O1,O5,O3,O2,P0,O4,O6,O7,O8,O9,C5,C4,C3,R8,R9,n5,J3,y0,H5,B0,P3,x6,X7,S3,K2,T6,T8,T7,X8,X9,N2,N4,N3,N5,N6,T3,B2,T2,H7,H8,H9,B3,a42,I6,B6,X5,X6,M4,S0,S1,Option.map_some,Option.map_none,I0,B4,A9,u9,H3,H4,M6,M5,U3,U2,N8,I7,I8,N7,T9,U0,M8,v8,M9,v7,S8,I5,I4,o3,T5,U1,N1,S9,T1,T0,B1,D6,D8,D7,n6,T4,Y1,Y0,S6,N0,a1f,S7,w6,I2,I3,B5,I1,o1,y9,n8,z6,n7,P2,U5,U6,C6,C7,J5,J4,H2,f7,j4,k9,d7,f5,tx]
 refine y8 (X:=Nat) (fun i=>⟨D2 [(0,.val (.str (bs t))),(1,.val (.str (bs wo))),(5,.val (.int .i64 i))],D0 []⟩) (fun i=>i≤t.length∧P8 (t.take i) wo=true) (fun i=>t.length - i) 0 (Le.mk _ _ ?_ ?_) ?_ ?_
 · simp [upd]
 · simp
 · simp [P8]
 · rintro i ⟨hi,hall⟩
   simp [b7,f6]
   refine j7 (fun h1=>?_) (fun h1=>?_)
   · have hstep:P8 (t.take (i+1)) wo=(decide (33≤t[i].toNat∧t[i].toNat≤126) && !decide (t[i]∈wo)):=by
      unfold P8 at hall ⊢
      rw [X0 t _ i h1,hall,Bool.true_and]
     have a19:(decide (33≤t[i].toNat∧t[i].toNat≤126) && !decide (t[i]∈wo))=false→P8 t wo=false:=fun hb=>by
      unfold P8
      rw [List.all_eq_false]
      exact ⟨t[i],List.getElem_mem h1,by simpa using hb⟩
     have e1:((t[i].toNat:Int) < 33)↔t[i].toNat < 33:=by omega
     have e2:((126:Int) < (t[i].toNat:Int))↔126 < t[i].toNat:=by omega
     by_cases h2:33≤t[i].toNat
     · have h2':¬ t[i].toNat < 33:=by omega
       by_cases h3:126 < t[i].toNat
       · simp [b7,f6,h1,e1,e2,h2,h2',h3]
         exact a19 (by simp;omega)
       · simp [b7,f6,h1,e1,e2,h2,h2',h3]
         refine b8 rfl rfl (.inl rfl) (W3 wo t[i] hw) ?_
         by_cases h4:t[i]∈wo
         · simp [num,b7,L2,h4]
           exact a19 (by simp [h4])
         · simp [num,b7,L2,h4]
           refine LoopNext.mk (i+1) ⟨by omega,by rw [hstep];simp [h4];omega⟩ (by omega) (Le.mk _ _ ?_ ?_)
           · simp [n5];exact wrap_i64 (by omega) (by omega)
           · simp
     · have h2':t[i].toNat < 33:=by omega
       simp [b7,f6,h1,e1,e2,h2,h2']
       exact a19 (by simp;omega)
   · have e:i=t.length:=by omega
     subst e
     simp [b7]
     simpa using hall.symm
theorem b3h (t:Tx) (ht:t.length < 1099511627776):f9 Tryz.prog 268 [.val (tx t)] (.ret (.val (.bool (J9 t))) []) []:=by
 refine f8 mixed ok268 rfl (fun _=>rfl) ?_
 unfold ir268
 rw [d8]
 simp [f7,j4,k9,d7,f5,tx,b7]
 refine b8 rfl rfl (.inl rfl) (a2v .i64 t.length 1 12) ?_
 by_cases hlen:1≤t.length∧t.length≤12
 rotate_left
 · rw [show decide ((1:Int)≤t.length∧(t.length:Int)≤12)=false from decide_eq_false (by omega)]
   simp
   simp [J9,hlen]
 rw [show decide ((1:Int)≤t.length∧(t.length:Int)≤12)=true from decide_eq_true (by omega)]
 simp
 refine y8 (X:=Nat) (fun i=>⟨D2 [(0,.val (.str (bs t))),(3,.val (.int .i64 i))],D0 []⟩) (fun i=>i≤t.length∧a0s (t.take i)=true) (fun i=>t.length - i) 0 (Le.mk _ _ ?_ ?_) ?_ ?_
 · simp [upd]
 · simp
 · simp [a0s]
 · rintro i ⟨hi,hall⟩
   simp [b7,f6]
   refine j7 (fun h1=>?_) (fun h1=>?_)
   · have hstep:=a6n t i h1
     rw [hall,Bool.true_and] at hstep
     have a19:=a44 t i h1
     have hls:J9 t=a0s t:=by simp [J9,hlen]
     have e1:((97:Int)≤(t[i].toNat:Int))↔97≤t[i].toNat:=by omega
     have e2:((t[i].toNat:Int)≤122)↔t[i].toNat≤122:=by omega
     have hgood:(if i=0 then m0 t[i] else K5 t[i])=true→∀ st':St,st'.env 0=.val (.str (bs t))→st'.env 3=.val (.int .i64 (IntKind.i64.wrap ((i:Int)+1))) →
      ∃ x',(x'≤t.length∧a0s (t.take x')=true)∧t.length - x' < t.length - i∧Le st' ⟨D2 [(0,.val (.str (bs t))),(3,.val (.int .i64 (x':Int)))],D0 []⟩:=fun hg st' q1 q2=>by
      refine ⟨i+1,⟨by omega,by rw [hstep,hg]⟩,by omega,Le.mk _ _ ?_ ?_⟩
      · simp [q1,q2];exact wrap_i64 (by omega) (by omega)
      · simp
     by_cases hs:97≤t[i].toNat∧t[i].toNat≤122
     · simp [b7,f6,h1,e1,e2,hs.1,hs.2]
       refine hgood ?_ _ ?_ ?_
       · simp [m0,K5,hs]
       · simp
       · simp
     · by_cases h2:97≤t[i].toNat
       · have h3:¬ t[i].toNat≤122:=fun h=>hs ⟨h2,h⟩
         have hlow:m0 t[i]=false:=by simp [m0];omega
         by_cases h0:i=0
         · simp [b7,f6,h1,e1,e2,h2,h3,(eq_true h0:(i=0)=True)]
           exact hls.trans (a19 (by rw [if_pos h0];exact hlow))
         · simp [b7,f6,h1,e1,e2,h2,h3,h0]
           refine b8 rfl rfl (.inl rfl) (a2w t[i]) ?_
           cases hd:o5 t[i] with
           | true=>
            simp [h0]
            refine hgood ?_ _ ?_ ?_
            · simp [h0,K5,hd]
            · simp
            · simp
           | false=>
            have e3:((t[i].toNat:Int)=45)↔t[i].toNat=45:=by omega
            have e4:((t[i].toNat:Int)=43)↔t[i].toNat=43:=by omega
            have e5:((t[i].toNat:Int)=46)↔t[i].toNat=46:=by omega
            by_cases h4:t[i].toNat=45
            · simp [b7,f6,h1,h0,e3,e4,e5,h4]
              refine hgood ?_ _ ?_ ?_
              · simp [h0,K5,h4]
              · simp
              · simp
            · by_cases h5:t[i].toNat=43
              · simp [b7,f6,h1,h0,e3,e4,e5,h4,h5]
                refine hgood ?_ _ ?_ ?_
                · simp [h0,K5,h5]
                · simp
                · simp
              · by_cases h6:t[i].toNat=46
                · simp [b7,f6,h1,h0,e3,e4,e5,h4,h5,h6]
                  refine hgood ?_ _ ?_ ?_
                  · simp [h0,K5,h6]
                  · simp
                  · simp
                · simp [b7,f6,h1,h0,e3,e4,e5,h4,h5,h6]
                  exact hls.trans (a19 (by rw [if_neg h0];simp [K5,hlow,hd,h4,h5,h6]))
       · skip
         have hlow:m0 t[i]=false:=by simp [m0];omega
         by_cases h0:i=0
         · simp [b7,f6,h1,e1,e2,h2,(eq_true h0:(i=0)=True)]
           exact hls.trans (a19 (by rw [if_pos h0];exact hlow))
         · simp [b7,f6,h1,e1,e2,h2,h0]
           refine b8 rfl rfl (.inl rfl) (a2w t[i]) ?_
           cases hd:o5 t[i] with
           | true=>
            simp [h0]
            refine hgood ?_ _ ?_ ?_
            · simp [h0,K5,hd]
            · simp
            · simp
           | false=>
            have e3:((t[i].toNat:Int)=45)↔t[i].toNat=45:=by omega
            have e4:((t[i].toNat:Int)=43)↔t[i].toNat=43:=by omega
            have e5:((t[i].toNat:Int)=46)↔t[i].toNat=46:=by omega
            by_cases h4:t[i].toNat=45
            · simp [b7,f6,h1,h0,e3,e4,e5,h4]
              refine hgood ?_ _ ?_ ?_
              · simp [h0,K5,h4]
              · simp
              · simp
            · by_cases h5:t[i].toNat=43
              · simp [b7,f6,h1,h0,e3,e4,e5,h4,h5]
                refine hgood ?_ _ ?_ ?_
                · simp [h0,K5,h5]
                · simp
                · simp
              · by_cases h6:t[i].toNat=46
                · simp [b7,f6,h1,h0,e3,e4,e5,h4,h5,h6]
                  refine hgood ?_ _ ?_ ?_
                  · simp [h0,K5,h6]
                  · simp
                  · simp
                · simp [b7,f6,h1,h0,e3,e4,e5,h4,h5,h6]
                  exact hls.trans (a19 (by rw [if_neg h0];simp [K5,hlow,hd,h4,h5,h6]))
   · have e:i=t.length:=by omega
     subst e
     simp [b7]
     simp [J9,hlen]
     simpa using hall.symm
theorem a8m (last:Bool) (t:Tx) (i:Nat) (h:i < t.length):C8 last (t.drop i)=if !(m0 t[i] || o5 t[i]) && (last || !decide (t[i].toNat=45∨t[i].toNat=46)) then false else C8 (!(m0 t[i] || o5 t[i])) (t.drop (i+1)):=by
 rw [List.drop_eq_getElem_cons h];rfl
theorem b7j (t:Tx) (ht:t.length < 1099511627776):f9 Tryz.prog 270 [.val (tx t)] (.ret (.val (.bool (V3 t))) []) []:=by
 refine f8 mixed ok270 rfl (fun _=>rfl) ?_
 unfold ir270
 rw [d8]
 simp [f7,j4,k9,d7,f5,tx]
 refine y8 (X:=Nat×Bool) (fun x=>⟨D2 [(0,.val (.str (bs t))),(3,.val (.bool x.2)),(4,.val (.int .i64 x.1))],D0 []⟩) (fun x=>x.1≤t.length∧V3 t=C8 x.2 (t.drop x.1)) (fun x=>t.length - x.1) (0,true) (Le.mk _ _ ?_ ?_) ?_ ?_
 · simp [upd]
 · simp
 · simp [V3]
 · rintro ⟨i,last⟩ ⟨hi,hinv⟩
   simp only at hi hinv
   simp [b7,f6]
   refine j7 (fun h1=>?_) (fun h1=>?_)
   · rw [a8m last t i h1] at hinv
     have e1:((97:Int)≤(t[i].toNat:Int))↔97≤t[i].toNat:=by omega
     have e2:((t[i].toNat:Int)≤122)↔t[i].toNat≤122:=by omega
     have e3:((t[i].toNat:Int)=45)↔t[i].toNat=45:=by omega
     have e5:((t[i].toNat:Int)=46)↔t[i].toNat=46:=by omega
     have hgood:∀ (l:Bool),V3 t=C8 l (t.drop (i+1))→∀ st':St,st'.env 0=.val (.str (bs t))→st'.env 3=.val (.bool l)→st'.env 4=.val (.int .i64 (IntKind.i64.wrap ((i:Int)+1))) →
      ∃ x':Nat×Bool,(x'.1≤t.length∧V3 t=C8 x'.2 (t.drop x'.1))∧t.length - x'.1 < t.length - i∧Le st' ⟨D2 [(0,.val (.str (bs t))),(3,.val (.bool x'.2)),(4,.val (.int .i64 (x'.1:Int)))],D0 []⟩:=fun l hl st' q1 q2 q3=>by
      refine ⟨(i+1,l),⟨by simp only;omega,hl⟩,by simp only;omega,Le.mk _ _ ?_ ?_⟩
      · simp [q1,q2,q3];exact wrap_i64 (by omega) (by omega)
      · simp
     by_cases hs:97≤t[i].toNat∧t[i].toNat≤122
     · have hlow:m0 t[i]=true:=by simp [m0,hs]
       simp [b7,f6,h1,e1,e2,hs.1,hs.2]
       refine hgood false (by rw [hinv];simp [hlow]) _ ?_ ?_ ?_<;>simp
     · have hlow:m0 t[i]=false:=by simp [m0];omega
       by_cases h2:97≤t[i].toNat
       · have h3:¬ t[i].toNat≤122:=fun h=>hs ⟨h2,h⟩
         simp [b7,f6,h1,e1,e2,h2,h3]
         refine b8 rfl rfl (.inl rfl) (a2w t[i]) ?_
         cases hd:o5 t[i] with
         | true=>
          simp
          refine hgood false (by rw [hinv];simp [hlow,hd]) _ ?_ ?_ ?_<;>simp
         | false=>
          cases last with
          | true=>
           simp
           rw [hinv];simp [hlow,hd]
          | false=>
           by_cases h4:t[i].toNat=45
           · simp [b7,f6,h1,e3,e5,h4]
             refine hgood true (by rw [hinv];simp [hlow,hd,h4]) _ ?_ ?_ ?_<;>simp
           · by_cases h6:t[i].toNat=46
             · simp [b7,f6,h1,e3,e5,h4,h6]
               refine hgood true (by rw [hinv];simp [hlow,hd,h6]) _ ?_ ?_ ?_<;>simp
             · simp [b7,f6,h1,e3,e5,h4,h6]
               rw [hinv];simp [hlow,hd,h4,h6]
       · skip
         simp [b7,f6,h1,e1,e2,h2]
         refine b8 rfl rfl (.inl rfl) (a2w t[i]) ?_
         cases hd:o5 t[i] with
         | true=>
          simp
          refine hgood false (by rw [hinv];simp [hlow,hd]) _ ?_ ?_ ?_<;>simp
         | false=>
          cases last with
          | true=>
           simp
           rw [hinv];simp [hlow,hd]
          | false=>
           by_cases h4:t[i].toNat=45
           · simp [b7,f6,h1,e3,e5,h4]
             refine hgood true (by rw [hinv];simp [hlow,hd,h4]) _ ?_ ?_ ?_<;>simp
           · by_cases h6:t[i].toNat=46
             · simp [b7,f6,h1,e3,e5,h4,h6]
               refine hgood true (by rw [hinv];simp [hlow,hd,h6]) _ ?_ ?_ ?_<;>simp
             · simp [b7,f6,h1,e3,e5,h4,h6]
               rw [hinv];simp [hlow,hd,h4,h6]
   · have e:i=t.length:=by omega
     subst e
     simp [b7]
     rw [hinv];simp [C8]
end Go.Proofs
end
section
namespace Go.Proofs
open Go.PW Go.KP
attribute [local simp] RV.cells RV.one PV.cells PV.solid PV.one o9 d9 l4 l0 RV.ofCells elems PV.killL
variable [GF]
theorem b9i (m:Nat):P5 [RV.int .u8 (48+(m:Int))]=bs [UInt8.ofNat (48+m)]:=by
 have:(48+(m:Int)).toNat=48+m:=by omega
 simp only [P5,bs,List.map,RV.byte,this]
theorem a7b (n:Nat):n≤9223372036854775807→f9 Tryz.prog 223 [.val (num n)] (.ret (.val (tx (Y2 n))) []) []:=by
 induction n using Nat.strongRecOn with
 | ind n ih=>
  intro hn
  refine f8 mixed ok223 rfl (fun _=>rfl) ?_
  unfold ir223
  rw [d8]
  have g1:¬ ((n:Int)=-9223372036854775808):=by omega
  have g2:¬ ((n:Int) < 0):=by omega
  by_cases h:n < 10
  · have g3:(n:Int) < 10:=by omega
    have g4:IntKind.i64.wrap (48+(n:Int))=48+(n:Int):=wrap_i64 (by omega) (by omega)
    have g5:IntKind.u8.wrap (48+(n:Int))=48+(n:Int):=a7d (by omega) (by omega)
    simp [f7,j4,k9,d7,f5,num,g1,g2,g3,g4,g5,RV.isU8]
    rw [W2 h]
    rw [b9i];rfl
  · have g3:¬ ((n:Int) < 10):=by omega
    have g6:(n:Int).tdiv 10=((n / 10:Nat):Int):=by rw [Int.tdiv_eq_ediv_of_nonneg (by omega)];omega
    have g7:(n:Int).tmod 10=((n % 10:Nat):Int):=by rw [Int.tmod_eq_emod_of_nonneg (by omega)];omega
    have hih:=ih (n / 10) (by omega) (by omega)
    rw [a02 h]
    have hl:=b8n (n / 10)
    have ha:n / 10≤922337203685477580:=by omega
    generalize n / 10=a at *
    have hb:n % 10 < 10:=Nat.mod_lt _ (by omega)
    generalize n % 10=b at *
    have g8:IntKind.i64.wrap (a:Int)=(a:Int):=wrap_i64 (by omega) (by omega)
    have g4:IntKind.i64.wrap (48+(b:Int))=48+(b:Int):=wrap_i64 (by omega) (by omega)
    have g5:IntKind.u8.wrap (48+(b:Int))=48+(b:Int):=a7d (by omega) (by omega)
    simp [f7,j4,k9,d7,f5,num,g1,g2,g3,g6,g7,g8,g4,g5,RV.isU8]
    refine j6 rfl rfl (.inl rfl) hih ?_
    simp [f7,j4,k9,d7,f5,num,g1,g2,g3,g6,g7,g8,g4,g5,RV.isU8,tx]
    rw [b9i]
    simp [b7,j9]
    omega
def a50:Option Int→PV
 | some n=>.tup [.val (num n),.val (.bool true)]
 | none=>.tup [.val (num 0),.val (.bool false)]
theorem b05 (u:Tx) (neg:Bool) (st:St) (h0:st.env 0=.val (tx u)) (h4:st.env 4=.val (num (if neg then -1 else 1))) (h5:st.env 5=.val (num 0)) (hu:u.length≤18) :
 EC Tryz.prog ir240_from5 st (K:=⟨Z6 [.t 2,.t 3] (a50 (if u.all o5 then some (if neg then - (H6 u:Int) else (H6 u:Int)) else none))⟩):=by
 unfold ir240_from5
 simp only [B8,J2,C0,J0,C1,x3,B9,J1,p7,D9,L6,L7,l3,w7,w8,o2,C2,x2,o4,I9,B7,x1,w9,H0,H1,a4s,a4t,Option.getD_some,Option.getD_none,F7,x8,u7,G7,u6,u0,G9,u1,G8,G6,G5,M1,A7,u4,G3,A5,u3,G2,F5,G4,A6,G0,t8,A4,G1,M3,M2,F6,F8,u2,F9,A8,u5,E5,p9,F4,F3,F2,L8,A2,q8,F0,A0,q7,E9,E3,F1,A1,E7,p8,z8,E8,M0,L9,E4,z7,s9,E6,A3,q9,O0,N9,P1,O1,O5,O3,O2,P0,O4,O6,O7,O8,O9,C5,C4,C3,R8,R9,n5,J3,y0,H5,B0,P3,x6,X7,S3,K2,T6,T8,T7,X8,X9,N2,N4,N3,N5,N6,T3,B2,T2,H7,H8,H9,B3,a42,I6,B6,X5,X6,M4,S0,S1,Option.map_some,Option.map_none,I0,B4,A9,u9,H3,H4,M6,M5,U3,U2,N8,I7,I8,N7,T9,U0,M8,v8,M9,v7,S8,I5,I4,o3,T5,U1,N1,S9,T1,T0,B1,D6,D8,D7,n6,T4,Y1,Y0,S6,N0,a1f,S7,w6,I2,I3,B5,I1,o1,y9,n8,z6,n7,P2,U5,U6,C6,C7,J5,J4,H2]
 refine y8 (X:=Nat) (fun i=>⟨D2 [(0,.val (tx u)),(4,.val (num (if neg then -1 else 1))),(5,.val (num (H6 (u.take i)))),(6,.val (num i))],D0 []⟩) (fun i=>i≤u.length∧(u.take i).all o5=true) (fun i=>u.length - i) 0 (Le.mk _ _ ?_ ?_) ?_ ?_
 · simp [upd,h0,h4,h5,num,H6]
 · simp
 · simp
 · rintro i ⟨hi,hall⟩
   have hlv:H6 (u.take i) < 1000000000000000000:=by
    have h1:=a7i _ hall
    have h2:(u.take i).length≤18:=by simp;omega
    exact Nat.lt_of_lt_of_le h1 (Nat.le_trans (Nat.pow_le_pow_right (by omega) h2) (by decide))
   simp [tx,num,b7,f6]
   refine j7 (fun h1=>?_) (fun h1=>?_)
   · have e1:((u[i].toNat:Int) < 48)↔u[i].toNat < 48:=by omega
     have e1':((48:Int)≤(u[i].toNat:Int))↔48≤u[i].toNat:=by omega
     have e2:((57:Int) < (u[i].toNat:Int))↔57 < u[i].toNat:=by omega
     by_cases h2:u[i].toNat < 48
     · have h2':¬ 48≤u[i].toNat:=by omega
       simp [tx,num,b7,f6,h1,e1,e1',e2,h2,h2']
       rw [if_neg (fun hA=>by have:=hA u[i] (List.getElem_mem h1);simp [o5] at this;omega)];rfl
     · have h2':48≤u[i].toNat:=by omega
       by_cases h3:57 < u[i].toNat
       · simp [tx,num,b7,f6,h1,e1,e1',e2,h2,h2',h3]
         rw [if_neg (fun hA=>by have:=hA u[i] (List.getElem_mem h1);simp [o5] at this;omega)];rfl
       · simp [tx,num,b7,f6,h1,e1,e1',e2,h2,h2',h3]
         have hlv2:H6 (u.take i) < 100000000000000000:=by
          have h1':=a7i _ hall
          have h2':(u.take i).length≤17:=by simp;omega
          exact Nat.lt_of_lt_of_le h1' (Nat.le_trans (Nat.pow_le_pow_right (by omega) h2') (by decide))
         have hw:IntKind.i64.wrap (IntKind.i64.wrap (IntKind.i64.wrap ((H6 (u.take i):Int)*10)+IntKind.i64.wrap (u[i].toNat:Int)) - 48)=((H6 (u.take (i+1)):Nat):Int):=by
          rw [a99 u i 0 h1,a3z,a1s _ _ _ h1]
          rw [wrap_i64 (x:=(H6 (u.take i):Int)*10) (by omega) (by omega),wrap_i64 (x:=(u[i].toNat:Int)) (by omega) (by omega),wrap_i64 (x:=(H6 (u.take i):Int)*10+(u[i].toNat:Int)) (by omega) (by omega),wrap_i64 (by omega) (by omega)]
          omega
         refine LoopNext.mk (i+1) ⟨by omega,?_⟩ (by omega) (Le.mk _ _ ?_ ?_)
         · rw [X0 _ _ _ h1,hall];simp [o5];omega
         · simp [hw,tx,num];exact wrap_i64 (by omega) (by omega)
         · simp
   · have e:i=u.length:=by omega
     subst e
     rw [List.take_length] at hall hlv
     simp [tx,num,b7]
     have hA:∀ x,x∈u→o5 x=true:=by simpa using hall
     have w1:IntKind.i64.wrap (-(H6 u:Int))=-(H6 u:Int):=wrap_i64 (by omega) (by omega)
     have w2:IntKind.i64.wrap (H6 u:Int)=(H6 u:Int):=wrap_i64 (by omega) (by omega)
     cases neg with
     | true=>simp [a50,num,eq_true hA,w1]
     | false=>simp [a50,num,eq_true hA,w2]
theorem a2j (u:Tx) (neg:Bool) (st:St) (h0:st.env 0=.val (tx u)) (h4:st.env 4=.val (num (if neg then -1 else 1))) (hu:u.length < 1099511627776) :
 EC Tryz.prog ir240_from3 st (K:=⟨Z6 [.t 2,.t 3] (a50 (W6 neg u))⟩):=by
 unfold ir240_from3
 by_cases a1:u.length=0
 · have:u=[]:=List.eq_nil_of_length_eq_zero a1
   subst this
   simp [h0,tx,b7]
   rw [show W6 neg []=none by simp [W6,Z9]];rfl
 · have a1':¬ ((u.length:Int)=0):=by omega
   by_cases a2:18 < u.length
   · have a2':(18:Int) < u.length:=by omega
     have a2'':¬ (u.length:Int)≤18:=by omega
     simp [h0,tx,b7,a1,a1',a2',a2'']
     rw [show W6 neg u=none by simp [W6,Z9,a2]];rfl
   · have hpos:0 < u.length:=by omega
     have a2':¬ (18:Int) < u.length:=by omega
     have a2'':(u.length:Int)≤18:=by omega
     have e0:u[0]?.getD 0=u.getD 0 0:=by simp
     have e1:((u[0].toNat:Int)=48)↔u[0].toNat=48:=by omega
     have e2:((1:Int) < (u.length:Int))↔1 < u.length:=by omega
     have hg:u[0]?.getD 0=u[0]:=by simp [List.getElem?_eq_getElem hpos]
     have hgo:Z9 neg u=false→∀ st':St,st'.env 0=.val (tx u)→st'.env 4=.val (num (if neg then -1 else 1))→st'.env 5=.val (num 0)→EC Tryz.prog ir240_from5 st' (K:=⟨Z6 [.t 2,.t 3] (a50 (W6 neg u))⟩):=fun hb st' q1 q2 q3=>by
      rw [show W6 neg u=(if u.all o5 then some (if neg then - (H6 u:Int) else (H6 u:Int)) else none) by unfold W6;rw [hb];rfl]
      exact b05 u neg st' q1 q2 q3 (by omega)
     by_cases a3:u[0].toNat=48
     · by_cases a4:1 < u.length
       · simp [h0,tx,b7,a1,a1',a2',a2'',f6,hpos,e1,e2,a3,a4]
         rw [show W6 neg u=none by simp [W6,Z9,hg,a3,a4]];rfl
       · cases neg with
         | true=>
          simp [h0,h4,num,tx,b7,a1,a1',a2',a2'',f6,hpos,e1,e2,a3,a4]
          rw [show W6 true u=none by simp [W6,Z9,hg,a3]];rfl
         | false=>
          simp [h0,h4,num,tx,b7,a1,a1',a2',a2'',f6,hpos,e1,e2,a3,a4]
          refine hgo ?_ _ ?_ ?_ ?_
          · simp [Z9,hg,a3,a4,a1,a2]
          · simp [h0,tx]
          · simp [h4,num]
          · simp [num]
     · simp [h0,tx,b7,a1,a1',a2',a2'',f6,hpos,e1,e2,a3]
       refine hgo ?_ _ ?_ ?_ ?_
       · simp [Z9,hg,a3,a1,a2]
       · simp [h0,tx]
       · simp [h4,num]
       · simp [num]
theorem b3i (t:Tx) (ht:t.length < 1099511627776):f9 Tryz.prog 240 [.val (tx t)] (.ret (a50 (K6 t)) []) []:=by
 refine f8 mixed ok240 rfl (fun ι=>by cases K6 t<;>rfl) ?_
 unfold ir240
 rw [d8]
 cases t with
 | nil=>
  simp [f7,j4,k9,d7,f5,tx,b7]
  rw [show K6 []=W6 false [] by simp [K6,W6,Z9]]
  refine a2j [] false _ ?_ ?_ (by simp)<;>simp [tx,num]
 | cons c r=>
  have hr:r.length < 1099511627776:=by simp at ht;omega
  have e0:(0:Int) < ((r.length:Int)+1):=by omega
  by_cases hc:c=45
  · have e1:((c.toNat:Int)=45):=by rw [hc];rfl
    simp [f7,j4,k9,d7,f5,tx,b7,f6,e0,e1,l6]
    rw [show K6 (c :: r)=W6 true r by simp [K6,hc]]
    refine a2j r true _ ?_ ?_ hr<;>simp [tx,num]
  · have e1:¬ ((c.toNat:Int)=45):=fun h=>hc (UInt8.toNat_inj.1 (by simp;omega))
    simp [f7,j4,k9,d7,f5,tx,b7,f6,e0,e1]
    rw [show K6 (c :: r)=W6 false (c :: r) by simp [K6,hc]]
    refine a2j (c :: r) false _ ?_ ?_ ht<;>simp [tx,num]
theorem b0n (u:LUrl) (hs:u.Small):f9 Tryz.prog 242 [.val (p6 u)] (.ret (.val (tx (a0w u))) []) []:=by
 refine f8 mixed ok242 rfl (fun _=>rfl) ?_
 unfold ir242
 rw [d8]
 obtain ⟨s1,s2,s3,s4,s5,s6,s7⟩:=hs
 have e1:(⟨#[58,47,47]⟩:ByteArray)=bs [58,47,47]:=rfl
 have e2:(⟨#[58]⟩:ByteArray)=bs [58]:=rfl
 simp [f7,j4,k9,d7,f5,p6,tx,num,b7,e1,e2,j9]
 refine ⟨by omega,by omega,j7 (fun h=>?_) (fun h=>?_)⟩
 · obtain ⟨p,hp⟩:=Int.eq_ofNat_of_zero_le (show 0≤u.port by omega)
   simp [p6,tx,num,b7,e1,e2,j9]
   refine b8 rfl rfl (.inl rfl) (by rw [hp];exact a7b p (by omega)) ?_
   have hl:=a1c 18 p (by omega)
   simp [p6,tx,num,b7,e1,e2,j9]
   refine ⟨by omega,by omega,?_⟩
   simp [a0w,Q0,hp,show 0 < p by omega]
 · simp [p6,tx,num,b7,e1,e2,j9]
   simp [a0w,Q0,h]
theorem a7t (u:LUrl) (hs:u.Small) (pre:Tx) (hp:pre.length < 4398046511104) (st:St) (h1:st.env 1=.ptr 1 0) (h3:st.env 3=.val (tx pre)) (hm:st.mem 1=.box [.val (tx u.scheme),.val (tx u.user),.val (tx u.host),.val (num u.port),.val (tx u.path),.val (tx u.query),.val (tx u.frag),.val (.bool u.hasQ),.val (.bool u.hasF)]) :
 EC Tryz.prog ir201_from4 st (K:=⟨Z6 [.t 2] (.val (tx (pre++(u.host++Q0 u.port++u.path)++(if u.hasQ then 63 :: u.query else [])++(if u.hasF then 35 :: u.frag else []))))⟩):=by
 unfold ir201_from4
 obtain ⟨s1,s2,s3,s4,s5,s6,s7⟩:=hs
 have e3:(⟨#[]⟩:ByteArray)=bs []:=rfl
 have e5:(⟨#[63]⟩:ByteArray)=bs [63]:=rfl
 have e6:(⟨#[35]⟩:ByteArray)=bs [35]:=rfl
 simp [h1,h3,hm,tx,num,b7,e3,e5,e6,j9]
 refine j6 rfl rfl (.inl rfl) (b0n ⟨[],[],u.host,u.port,[],[],[],false,false⟩ ⟨by simp,by simp,s3,by simp,by simp,by simp,s7⟩) ?_
 simp [h1,h3,hm,tx,num,b7,e3,e5,e6,j9,l6,a0w]
 have hpl:=b33 u.port s7
 have htk:List.take (u.host.length+(Q0 u.port).length) (u.host++Q0 u.port)=u.host++Q0 u.port:=List.take_of_length_le (by simp)
 refine ⟨by omega,by omega,?_⟩
 cases hq:u.hasQ with
 | true=>
  refine j7 (fun _=>?_) (fun h=>(h (by simp)).elim)
  simp [h1,h3,hm,tx,num,b7,e3,e5,e6,j9,htk]
  refine ⟨by omega,by omega,?_⟩
  cases hf:u.hasF with
  | true=>
   refine j7 (fun _=>?_) (fun h=>(h (by simp)).elim)
   simp [h1,h3,hm,tx,num,b7,e3,e5,e6,j9,htk]
   omega
  | false=>
   refine j7 (fun h=>by simp at h) (fun _=>?_)
   simp [h1,h3,hm,tx,num,b7,e3,e5,e6,j9,htk]
 | false=>
  refine j7 (fun h=>by simp at h) (fun _=>?_)
  simp [h1,h3,hm,tx,num,b7,e3,e5,e6,j9,htk]
  cases hf:u.hasF with
  | true=>
   refine j7 (fun _=>?_) (fun h=>(h (by simp)).elim)
   simp [h1,h3,hm,tx,num,b7,e3,e5,e6,j9,htk]
   omega
  | false=>
   refine j7 (fun h=>by simp at h) (fun _=>?_)
   simp [h1,h3,hm,tx,num,b7,e3,e5,e6,j9,htk]
theorem b0m (u:LUrl) (hs:u.Small):f9 Tryz.prog 201 [.val (p6 u)] (.ret (.val (tx (M7 u))) []) []:=by
 refine f8 mixed ok201 rfl (fun _=>rfl) ?_
 unfold ir201
 rw [d8]
 have hs':=hs
 obtain ⟨s1,s2,s3,s4,s5,s6,s7⟩:=hs
 have e1:(⟨#[58,47,47]⟩:ByteArray)=bs [58,47,47]:=rfl
 have e2:(⟨#[58]⟩:ByteArray)=bs [58]:=rfl
 have e3:(⟨#[]⟩:ByteArray)=bs []:=rfl
 have e4:(⟨#[64]⟩:ByteArray)=bs [64]:=rfl
 have e5:(⟨#[63]⟩:ByteArray)=bs [63]:=rfl
 have e6:(⟨#[35]⟩:ByteArray)=bs [35]:=rfl
 simp [f7,j4,k9,d7,f5,p6,tx,num,b7,e1,e2,j9]
 refine b8 rfl rfl (.inl rfl) (a2b u.scheme) ?_
 by_cases hw:K7 u.scheme=true
 · simp [p6,tx,num,b7,e1,e2,e3,e4,j9,l5,hw]
   refine ⟨by omega,j7 (fun hu=>?_) (fun hu=>?_)⟩
   · simp [p6,tx,num,b7,e1,e2,e3,e4,j9,l5]
     refine ⟨by omega,by omega,?_⟩
     have e:M7 u=(u.scheme++[58,47,47]++(u.user++[64]))++(u.host++Q0 u.port++u.path)++(if u.hasQ then 63 :: u.query else [])++(if u.hasF then 35 :: u.frag else []):=by simp [M7,hw,hu]
     have:=a7t u hs' (u.scheme++[58,47,47]++(u.user++[64])) (by simp;omega)
     rw [← e] at this
     refine this _ ?_ ?_ ?_<;>simp [tx,num]
   · have hu:u.user=[]:=Classical.byContradiction hu
     have e:M7 u=(u.scheme++[58,47,47])++(u.host++Q0 u.port++u.path)++(if u.hasQ then 63 :: u.query else [])++(if u.hasF then 35 :: u.frag else []):=by simp [M7,hw,hu]
     have:=a7t u hs' (u.scheme++[58,47,47]) (by simp;omega)
     rw [← e] at this
     simp [p6,tx,num,b7,e1,e2,e3,e4,j9,l5]
     refine this _ ?_ ?_ ?_<;>simp [tx,num]
 · simp [p6,tx,num,b7,e1,e2,j9,hw]
   refine ⟨by omega,by omega,?_⟩
   simp [M7,hw]
end Go.Proofs
end
section
namespace Go.Proofs
open Go.PW Go.KP
attribute [local simp] RV.cells RV.one PV.cells PV.solid PV.one o9 d9 l4 l0 RV.ofCells elems PV.killL
variable [GF]
theorem b1x (u:LUrl) (hs:u.Small) (hw:K7 u.scheme=true) (st:St) (h1:st.env 1=.ptr 1 0) (hm:st.mem 1=.box [.val (tx u.scheme),.val (tx u.user),.val (tx u.host),.val (num u.port),.val (tx u.path),.val (tx u.query),.val (tx u.frag),.val (.bool u.hasQ),.val (.bool u.hasF)]) :
 EC Tryz.prog ir239_from3 st (K:=⟨Z6 [.t 2] (.val (.bool (P8 u.user [47,63,35,64] && V3 u.host && decide (0≤u.port∧u.port≤65535) && decide (u.port≠R2 u.scheme) && decide (0 < u.path.length) && decide ((u.path.getD 0 0).toNat=47))))⟩):=by
 unfold ir239_from3
 obtain ⟨s1,s2,s3,s4,s5,s6,s7⟩:=hs
 have e3:(⟨#[47,63,35,64]⟩:ByteArray)=bs [47,63,35,64]:=rfl
 simp [h1,hm,tx,num,b7,e3]
 refine j6 rfl rfl (.inl rfl) (a34 u.user [47,63,35,64] s2 (by simp)) ?_
 cases a1:P8 u.user [47,63,35,64] with
 | false=>simp [h1,hm,tx,num,b7]
 | true=>
  simp [h1,hm,tx,num,b7]
  refine j6 rfl rfl (.inl rfl) (b7j u.host s3) ?_
  cases a2:V3 u.host with
  | false=>simp [h1,hm,tx,num,b7]
  | true=>
   simp [h1,hm,tx,num,b7]
   refine j6 rfl rfl (.inl rfl) (a2v .i64 u.port 0 65535) ?_
   cases a3:decide (0≤u.port∧u.port≤65535) with
   | false=>simp [h1,hm,tx,num,b7]
   | true=>
    simp [h1,hm,tx,num,b7]
    refine j6 rfl rfl (.inl rfl) (a9a u.scheme) ?_
    by_cases a4:u.port=R2 u.scheme
    · simp [h1,hm,tx,num,b7,a4]
    · simp [h1,hm,tx,num,b7,a4]
      by_cases a5:0 < u.path.length
      · have a5':u.path≠[]:=fun e=>by simp [e] at a5
        have e7:((u.path[0].toNat:Int)=47)↔u.path[0].toNat=47:=by omega
        simp [h1,hm,tx,num,b7,f6,a4,a5,a5',e7,List.getElem?_eq_getElem a5]
        by_cases h47:u.path[0].toNat=47
        · simp [h47]
        · have h47':((u.path[0].toNat:Int) == 47)=false:=by simp;omega
          rw [h47'];simp [h47]
      · simp [h1,hm,tx,num,b7,a4,a5]
def a2d (u:LUrl):Bool:=
 if K7 u.scheme then P8 u.user [47,63,35,64] && V3 u.host && decide (0≤u.port∧u.port≤65535) && decide (u.port≠R2 u.scheme) && decide (0 < u.path.length) && decide ((u.path.getD 0 0).toNat=47)
 else decide (u.user=[]) && decide (u.host=[]) && decide (u.port=0) && !u.hasQ && !u.hasF
theorem b1y (u:LUrl) (hs:u.Small) (st:St) (h1:st.env 1=.ptr 1 0) (hm:st.mem 1=.box [.val (tx u.scheme),.val (tx u.user),.val (tx u.host),.val (num u.port),.val (tx u.path),.val (tx u.query),.val (tx u.frag),.val (.bool u.hasQ),.val (.bool u.hasF)]) :
 EC Tryz.prog ir239_from2 st (K:=⟨Z6 [.t 2] (.val (.bool (a2d u)))⟩):=by
 unfold ir239_from2
 have e3:(⟨#[]⟩:ByteArray)=bs []:=rfl
 simp [h1,hm,tx,num,b7]
 refine b8 rfl rfl (.inl rfl) (a2b u.scheme) ?_
 cases hw:K7 u.scheme with
 | true=>
  simp [h1,hm,tx,num,b7]
  rw [show a2d u=_ by unfold a2d;rw [hw,if_pos rfl]]
  refine b1x u hs hw _ ?_ ?_<;>simp [h1,hm,tx,num]
 | false=>
  rw [show a2d u=_ by unfold a2d;rw [hw,if_neg (by simp)]]
  by_cases a1:u.user=[]
  · by_cases a2:u.host=[]
    · by_cases a3:u.port=0
      · cases a4:u.hasQ with
        | true=>simp [h1,hm,tx,num,b7,e3,l5,a1,a2,a3,a4]
        | false=>simp [h1,hm,tx,num,b7,e3,l5,a1,a2,a3,a4]
      · simp [h1,hm,tx,num,b7,e3,l5,a1,a2,a3]
    · simp [h1,hm,tx,num,b7,e3,l5,a1,a2]
  · simp [h1,hm,tx,num,b7,e3,l5,a1]
structure UO (st:St) (u:LUrl):Prop where
 e1:st.env 1=.ptr 1 0
 m1:st.mem 1=.box [.val (tx u.scheme),.val (tx u.user),.val (tx u.host),.val (num u.port),.val (tx u.path),.val (tx u.query),.val (tx u.frag),.val (.bool u.hasQ),.val (.bool u.hasF)]
section
variable {Ks:Kx (St→Prop)} {kx:Kx (RV→St→Prop)} {st:St} {u:LUrl} {b:Bool}
def b6c (u:LUrl):Bool:=decide (100 < (M7 u).length)
theorem okops43 (hs:u.Small) (h:UO st u) (hb:st.env 45=.val (.bool b)) (hK:∀ st',UO st' u→st'.env 50=.val (.bool (b || b6c u))→Ks.k st'):EO Tryz.prog ir239_ops1_43 st (Ks:=Ks) (kx:=kx):=by
 unfold ir239_ops1_43
 obtain ⟨e1,m1⟩:=h
 cases b with
 | true=>
  simp [hb]
  refine hK _ ⟨?_,?_⟩ ?_<;>simp [e1,m1]
 | false=>
  simp [hb,e1,m1]
  refine b8 rfl rfl (.inl rfl) (b0m u hs) ?_
  have e:((100:Int) < ((M7 u).length:Int))↔100 < (M7 u).length:=by omega
  simp [hb,e1,m1,tx,b7]
  refine hK _ ⟨?_,?_⟩ ?_<;>simp [e1,m1,b6c,e,tx,num]
def b6d (u:LUrl):Bool:=!P8 u.frag [] || b6c u
theorem okops37 (hs:u.Small) (h:UO st u) (hb:st.env 39=.val (.bool b)) (hK:∀ st',UO st' u→st'.env 50=.val (.bool (b || b6d u))→Ks.k st'):EO Tryz.prog ir239_ops1_37 st (Ks:=Ks) (kx:=kx):=by
 unfold ir239_ops1_37
 have e3:(⟨#[]⟩:ByteArray)=bs []:=rfl
 cases b with
 | true=>
  simp [hb]
  refine okops43 (b:=true) hs ⟨?_,?_⟩ ?_ (fun st' q1 q2=>hK st' q1 ?_)
  · simp [h.e1]
  · simp [h.m1]
  · simp
  · simpa using q2
 | false=>
  simp [hb,h.e1,h.m1,e3,tx]
  refine b8 rfl rfl (.inl rfl) (a34 u.frag [] hs.2.2.2.2.2.1 (by simp)) ?_
  simp [hb,e3,tx]
  refine okops43 (b:=!P8 u.frag []) hs ⟨?_,?_⟩ ?_ (fun st' q1 q2=>hK st' q1 ?_)
  · simp [h.e1]
  · simp [h.m1]
  · simp
  · simpa [b6d] using q2
def b6e (u:LUrl):Bool:=!P8 u.query [35] || b6d u
theorem okops31 (hs:u.Small) (h:UO st u) (hb:st.env 33=.val (.bool b)) (hK:∀ st',UO st' u→st'.env 50=.val (.bool (b || b6e u))→Ks.k st'):EO Tryz.prog ir239_ops1_31 st (Ks:=Ks) (kx:=kx):=by
 unfold ir239_ops1_31
 have e3:(⟨#[35]⟩:ByteArray)=bs [35]:=rfl
 cases b with
 | true=>
  simp [hb]
  refine okops37 (b:=true) hs ⟨?_,?_⟩ ?_ (fun st' q1 q2=>hK st' q1 ?_)
  · simp [h.e1]
  · simp [h.m1]
  · simp
  · simpa using q2
 | false=>
  simp [hb,h.e1,h.m1,e3,tx]
  refine b8 rfl rfl (.inl rfl) (a34 u.query [35] hs.2.2.2.2.1 (by simp)) ?_
  simp [hb,e3,tx]
  refine okops37 (b:=!P8 u.query [35]) hs ⟨?_,?_⟩ ?_ (fun st' q1 q2=>hK st' q1 ?_)
  · simp [h.e1]
  · simp [h.m1]
  · simp
  · simpa [b6e] using q2
def b6f (u:LUrl):Bool:=!P8 u.path [63,35] || b6e u
theorem okops25 (hs:u.Small) (h:UO st u) (hb:st.env 27=.val (.bool b)) (hK:∀ st',UO st' u→st'.env 50=.val (.bool (b || b6f u))→Ks.k st'):EO Tryz.prog ir239_ops1_25 st (Ks:=Ks) (kx:=kx):=by
 unfold ir239_ops1_25
 have e3:(⟨#[63,35]⟩:ByteArray)=bs [63,35]:=rfl
 cases b with
 | true=>
  simp [hb]
  refine okops31 (b:=true) hs ⟨?_,?_⟩ ?_ (fun st' q1 q2=>hK st' q1 ?_)
  · simp [h.e1]
  · simp [h.m1]
  · simp
  · simpa using q2
 | false=>
  simp [hb,h.e1,h.m1,e3,tx]
  refine b8 rfl rfl (.inl rfl) (a34 u.path [63,35] hs.2.2.2.1 (by simp)) ?_
  simp [hb,e3,tx]
  refine okops31 (b:=!P8 u.path [63,35]) hs ⟨?_,?_⟩ ?_ (fun st' q1 q2=>hK st' q1 ?_)
  · simp [h.e1]
  · simp [h.m1]
  · simp
  · simpa [b6f] using q2
def a9g (u:LUrl):Bool:=(!u.hasF && !decide (u.frag=[])) || b6f u
theorem okops15 (hs:u.Small) (h:UO st u) (hb:st.env 17=.val (.bool b)) (hK:∀ st',UO st' u→st'.env 50=.val (.bool (b || a9g u))→Ks.k st'):EO Tryz.prog ir239_ops1_15 st (Ks:=Ks) (kx:=kx):=by
 unfold ir239_ops1_15
 have e3:(⟨#[]⟩:ByteArray)=bs []:=rfl
 cases b with
 | true=>
  simp [hb]
  refine okops25 (b:=true) hs ⟨?_,?_⟩ ?_ (fun st' q1 q2=>hK st' q1 ?_)
  · simp [h.e1]
  · simp [h.m1]
  · simp
  · simpa using q2
 | false=>
  cases hf:u.hasF with
  | true=>
   simp [hb,h.e1,h.m1,e3,tx,hf]
   refine okops25 (b:=false) hs ⟨?_,?_⟩ ?_ (fun st' q1 q2=>hK st' q1 ?_)
   · simp [h.e1]
   · simp [h.m1]
   · simp
   · simpa [a9g,hf] using q2
  | false=>
   simp [hb,h.e1,h.m1,e3,tx,hf,l5]
   refine okops25 (b:=!decide (u.frag=[])) hs ⟨?_,?_⟩ ?_ (fun st' q1 q2=>hK st' q1 ?_)
   · simp [h.e1]
   · simp [h.m1]
   · simp
   · simpa [a9g,hf] using q2
end
theorem b59 (u:LUrl) (hs:u.Small):f9 Tryz.prog 239 [.val (p6 u)] (.ret (.val (.bool (n0 u))) []) []:=by
 refine f8 mixed ok239 rfl (fun _=>rfl) ?_
 unfold ir239
 rw [d8]
 have hlu:n0 u=(J9 u.scheme && (u.hasQ || decide (u.query=[])) && (u.hasF || decide (u.frag=[])) && P8 u.path [63,35] && P8 u.query [35] && P8 u.frag [] && decide ((M7 u).length≤100) && a2d u):=rfl
 have hend:∀ st':St,UO st' u→∀ b,st'.env 50=.val (.bool (b || a9g u))→b=(!J9 u.scheme || (!u.hasQ && !decide (u.query=[]))) →
  CD (st'.env 50) (A:=⟨EC Tryz.prog (.seq (.reg [⟨some 2,.mov (.k (.val (.bool false))),none⟩]) .ret) st' (K:=⟨fun e st'=>ET e st' (Ks:=⟨fun st'=>EC Tryz.prog ir239_from2 st' (K:=⟨Z6 [.t 2] (.val (.bool (n0 u)))⟩)⟩) (K:=⟨Z6 [.t 2] (.val (.bool (n0 u)))⟩)⟩)⟩)
   (B:=⟨EC Tryz.prog .skip st' (K:=⟨fun e st'=>ET e st' (Ks:=⟨fun st'=>EC Tryz.prog ir239_from2 st' (K:=⟨Z6 [.t 2] (.val (.bool (n0 u)))⟩)⟩) (K:=⟨Z6 [.t 2] (.val (.bool (n0 u)))⟩)⟩)⟩):=by
  intro st' h b hb hbb
  have hlu2:n0 u=(!(b || a9g u) && a2d u):=by
   rw [hlu,hbb]
   unfold a9g b6f b6e b6d b6c
   have e:decide ((M7 u).length≤100)=!decide (100 < (M7 u).length):=by
    by_cases h:(M7 u).length≤100
    · have h':¬ 100 < (M7 u).length:=by omega
      simp [h,h']
    · have h':100 < (M7 u).length:=by omega
      simp [h,h']
   rw [e]
   cases J9 u.scheme<;>cases u.hasQ<;>cases u.hasF<;>cases decide (u.query=[])<;>cases decide (u.frag=[])<;>cases P8 u.path [63,35]<;>cases P8 u.query [35]<;>cases P8 u.frag []<;>cases decide (100 < (M7 u).length)<;>rfl
  rw [hb,hlu2]
  cases (b || a9g u) with
  | true=>simp
  | false=>
   simp only [B8,J2,C0,J0,C1,x3,B9,J1,p7,D9,L6,L7,l3,w7,w8,o2,C2,x2,o4,I9,B7,x1,w9,H0,H1,a4s,a4t,Option.getD_some,Option.getD_none,F7,x8,u7,G7,u6,u0,G9,u1,G8,G6,G5,M1,A7,u4,G3,A5,u3,G2,F5,G4,A6,G0,t8,A4,G1,M3,M2,F6,F8,u2,F9,A8,u5,E5,p9,F4,F3,F2,L8,A2,q8,F0,A0,q7,E9,E3,F1,A1,E7,p8,z8,E8,M0,L9,E4,z7,s9,E6,A3,q9,O0,N9,P1,O1,O5,O3,O2,P0,O4,O6,O7,O8,O9,C5,C4,C3,R8,R9,n5,J3,y0,H5,B0,P3,x6,X7,S3,K2,T6,T8,T7,X8,X9,N2,N4,N3,N5,N6,T3,B2,T2,H7,H8,H9,B3,a42,I6,B6,X5,X6,M4,S0,S1,Option.map_some,Option.map_none,I0,B4,A9,u9,H3,H4,M6,M5,U3,U2,N8,I7,I8,N7,T9,U0,M8,v8,M9,v7,S8,I5,I4,o3,T5,U1,N1,S9,T1,T0,B1,D6,D8,D7,n6,T4,Y1,Y0,S6,N0,a1f,S7,w6,I2,I3,B5,I1,o1,y9,n8,z6,n7,P2,U5,U6,C6,C7,J5,J4,H2]
   refine j7 (fun h=>by cases h) (fun _=>?_)
   simp only [B8,J2,C0,J0,C1,x3,B9,J1,p7,D9,L6,L7,l3,w7,w8,o2,C2,x2,o4,I9,B7,x1,w9,H0,H1,a4s,a4t,Option.getD_some,Option.getD_none,F7,x8,u7,G7,u6,u0,G9,u1,G8,G6,G5,M1,A7,u4,G3,A5,u3,G2,F5,G4,A6,G0,t8,A4,G1,M3,M2,F6,F8,u2,F9,A8,u5,E5,p9,F4,F3,F2,L8,A2,q8,F0,A0,q7,E9,E3,F1,A1,E7,p8,z8,E8,M0,L9,E4,z7,s9,E6,A3,q9,O0,N9,P1,O1,O5,O3,O2,P0,O4,O6,O7,O8,O9,C5,C4,C3,R8,R9,n5,J3,y0,H5,B0,P3,x6,X7,S3,K2,T6,T8,T7,X8,X9,N2,N4,N3,N5,N6,T3,B2,T2,H7,H8,H9,B3,a42,I6,B6,X5,X6,M4,S0,S1,Option.map_some,Option.map_none,I0,B4,A9,u9,H3,H4,M6,M5,U3,U2,N8,I7,I8,N7,T9,U0,M8,v8,M9,v7,S8,I5,I4,o3,T5,U1,N1,S9,T1,T0,B1,D6,D8,D7,n6,T4,Y1,Y0,S6,N0,a1f,S7,w6,I2,I3,B5,I1,o1,y9,n8,z6,n7,P2,U5,U6,C6,C7,J5,J4,H2]
   exact b1y u hs st' h.e1 h.m1
 simp [f7,j4,k9,d7,f5,p6,tx,num,b7]
 refine b8 rfl rfl (.inl rfl) (b3h u.scheme hs.1) ?_
 have e3:(⟨#[]⟩:ByteArray)=bs []:=rfl
 cases b1:J9 u.scheme with
 | false=>
  simp [tx,num,b7]
  refine okops15 (b:=true) hs ⟨?_,?_⟩ ?_ (fun st' q1 q2=>hend st' q1 true q2 (by simp [b1]))
  · simp
  · simp [tx,num]
  · simp
 | true=>
  cases hq:u.hasQ with
  | true=>
   simp [tx,num,b7,hq]
   refine okops15 (b:=false) hs ⟨?_,?_⟩ ?_ (fun st' q1 q2=>hend st' q1 false q2 (by simp [b1,hq]))
   · simp
   · simp [tx,num,hq]
   · simp
  | false=>
   simp [tx,num,b7,hq,e3,l5]
   refine okops15 (b:=!decide (u.query=[])) hs ⟨?_,?_⟩ ?_ (fun st' q1 q2=>hend st' q1 _ q2 (by simp [b1,hq]))
   · simp
   · simp [tx,num,hq]
   · simp
end Go.Proofs
end
section
namespace Go.Proofs
open Go.PW Go.KP
attribute [local simp] RV.cells RV.one PV.cells PV.solid PV.one o9 d9 l4 l0 RV.ofCells elems PV.killL
variable [GF]
abbrev prs (r:LUrl×Bool):Kx (PExit→St→Prop):=⟨Z6 [.c 2 true 9,.t 3] (U7 r)⟩
structure UP (st:St) (u:LUrl) (r:Tx):Prop where
 e2:st.env 2=.ptr 2 0
 e5:st.env 5=.ptr 5 0
 e6:st.env 6=.val (tx r)
 m2:st.mem 2=.box (b9 LUrl.zero)
 m5:st.mem 5=.box (b9 u)
theorem a0p (t:Tx) (k:Nat):List.drop k (List.take t.length t)=t.drop k:=by rw [List.take_length]
theorem a2h (u:LUrl) (hs:u.Small) (r:Tx) (st:St) (h:UP st u r):EC Tryz.prog ir199_from18 st (K:=prs (u,n0 u)):=by
 unfold ir199_from18
 obtain ⟨e2,e5,e6,m2,m5⟩:=h
 simp [e2,e5,m2,m5,b9,d9,tx,num]
 refine j6 rfl rfl (.inl rfl) (b59 u hs) ?_
 simp [e2,e5,m2,m5,b9,d9,tx,num]
 refine a28 (id:=2) ?_ ?_ ?_
 · simp [e2]
 · simp [e2,b9,tx,num]
 · simp
theorem S5 (st:St) (e2:st.env 2=.ptr 2 0) (m2:st.mem 2=.box (b9 LUrl.zero)) (e3:st.env 3=.val (.bool false)):Z6 [.c 2 true 9,.t 3] (U7 (LUrl.zero,false)) .ret st:=
 a28 e2 m2 e3
def y4 (u:LUrl) (r:Tx):LUrl×Bool:=match Z7 u.scheme r with
 | none=>(LUrl.zero,false)
 | some p=>({ u with port:=p },n0 { u with port:=p })
theorem b4k {t:Tx} {n:Int} (h:K6 t=some n):n≤1000000000000000000:=by
 obtain ⟨_,_,u,h1,h2,h3,h4⟩:=a5g h
 have:=a7i u h2
 have h5:H6 u < 10 ^ 18:=Nat.lt_of_lt_of_le this (Nat.pow_le_pow_right (by omega) h3)
 have h6:(10:Nat) ^ 18=1000000000000000000:=by decide
 rcases h4 with h4 | h4<;>omega
theorem b01 (u:LUrl) (hs:u.Small) (hp:u.port=0) (r:Tx) (hr:r.length < 1099511627776) (st:St) (h:UP st u r) (e4:st.env 4=.val (num (k8 r 58))):EC Tryz.prog ir199_from17 st (K:=prs (y4 u r)):=by
 unfold ir199_from17
 obtain ⟨e2,e5,e6,m2,m5⟩:=h
 have hle:=U8 r 58
 by_cases hc:58∈r
 · have hlt:=L2.2 hc
   have g1:((k8 r 58:Nat):Int) < (r.length:Int):=by omega
   have g2:IntKind.i64.wrap ((k8 r 58:Nat)+1:Int)=((k8 r 58+1:Nat):Int):=by rw [wrap_i64 (by omega) (by omega)];omega
   have g3:k8 r 58+1≤r.length:=by omega
   have g4:(0:Int)≤((k8 r 58:Nat):Int)+1:=by omega
   simp [e2,e4,e5,e6,m2,m5,tx,num,b7,g1,g2,g3,g4,l6,a0p,hlt]
   have hn:=b3i (k7 r 58) (by have:=Q1 r 58;omega)
   cases hnum:K6 (k7 r 58) with
   | none=>
    rw [hnum] at hn
    refine a0d rfl rfl (.inl rfl) hn ?_
    rw [show y4 u r=(LUrl.zero,false) by simp [y4,Z7,hc,hnum]]
    simp [e2,e4,e5,e6,m2,m5,tx,num,b9]
    refine S5 _ ?_ ?_ ?_
    · simp [e2]
    · simp [b9,LUrl.zero,tx,num,bs]
    · simp
   | some n=>
    have hn1:=b4k hnum
    rw [hnum] at hn
    refine a0d rfl rfl (.inl rfl) hn ?_
    by_cases hin:1≤n∧n≤65535
    · simp [e2,e4,e5,e6,m2,m5,tx,num,b9]
      refine b8 rfl rfl (.inl rfl) (a2v .i64 n 1 65535) ?_
      simp [e2,e4,e5,e6,m2,m5,tx,num,b9,hin]
      refine b8 rfl rfl (.inl rfl) (a9a u.scheme) ?_
      by_cases hu:n=R2 u.scheme
      · have e:y4 u r=(u,n0 u):=by
         have hl:Z7 u.scheme r=some 0:=by
          simp only [Z7,hc,hnum,hin,if_true,and_self]
          rw [if_pos hu]
         have:({ u with port:=0 }:LUrl)=u:=by rw [← hp]
         simp only [y4,hl,this]
        rw [e]
        simp [e2,e4,e5,e6,m2,m5,tx,num,b9,hu]
        refine a2h u hs r _ ⟨?_,?_,?_,?_,?_⟩<;>simp [e2,e5,e6,m2,m5,b9,tx,num]
      · have e:y4 u r=({ u with port:=n },n0 { u with port:=n }):=by
         simp only [y4,Z7,hc,hnum,hin,if_true,and_self,hu,if_false]
        rw [e]
        simp [e2,e4,e5,e6,m2,m5,tx,num,b9,hu]
        refine a2h { u with port:=n } ?_ r _ ⟨?_,?_,?_,?_,?_⟩
        · exact ⟨hs.1,hs.2.1,hs.2.2.1,hs.2.2.2.1,hs.2.2.2.2.1,hs.2.2.2.2.2.1,by show n≤_;omega⟩
        all_goals simp [e2,e5,e6,m2,m5,b9,tx,num]
    · rw [show y4 u r=(LUrl.zero,false) by simp only [y4,Z7,hc,hnum,hin,if_true,if_false]]
      simp [e2,e4,e5,e6,m2,m5,tx,num,b9]
      refine b8 rfl rfl (.inl rfl) (a2v .i64 n 1 65535) ?_
      have hd:decide (1≤n∧n≤65535)=false:=decide_eq_false hin
      rw [hd]
      simp [e2,e4,e5,e6,m2,m5,tx,num,b9]
      refine S5 _ ?_ ?_ ?_
      · simp [e2]
      · simp [b9,LUrl.zero,tx,num,bs]
      · simp
 · have hge:k8 r 58=r.length:=by have:=mt L2.1 hc;omega
   have e:y4 u r=(u,n0 u):=by
    simp only [y4,Z7,hc,if_false]
    have:({ u with port:=0 }:LUrl)=u:=by rw [← hp]
    rw [this]
   rw [e]
   simp [e2,e4,e5,e6,m2,m5,tx,num,b7,hge]
   refine a2h u hs r _ ⟨?_,?_,?_,?_,?_⟩<;>simp [e2,e5,e6,m2,m5,b9,tx,num]
theorem a49 (sc us pa qu fr:Tx) (hq hf:Bool) (h1:sc.length < 1099511627776) (h2:us.length < 1099511627776) (h3:pa.length < 1099511627776) (h4:qu.length < 1099511627776) (h5:fr.length < 1099511627776) (r:Tx) (hr:r.length < 1099511627776) (st:St)
 (h:UP st ⟨sc,us,[],0,pa,qu,fr,hq,hf⟩ r):EC Tryz.prog ir199_from15 st (K:=prs (y4 ⟨sc,us,o8 (i6 r 58),0,pa,qu,fr,hq,hf⟩ r)):=by
 unfold ir199_from15
 obtain ⟨e2,e5,e6,m2,m5⟩:=h
 have hle:=U8 r 58
 simp [e2,e5,e6,m2,m5,tx,num,b7]
 refine b8 rfl rfl (.inl rfl) (W3 r 58 hr) ?_
 simp [e2,e5,e6,m2,m5,tx,num,b7,hle,l6]
 refine b8 rfl rfl (.inl rfl) (a9c (i6 r 58) (by have:=o7 r 58;omega)) ?_
 simp [e2,e5,e6,m2,m5,tx,num,b7,b9]
 refine b01 ⟨sc,us,o8 (i6 r 58),0,pa,qu,fr,hq,hf⟩ ?_ rfl r hr _ ⟨?_,?_,?_,?_,?_⟩ ?_
 · refine ⟨h1,h2,?_,h3,h4,h5,by show (0:Int)≤_;omega⟩
   have:=o7 r 58
   simp [o8];omega
 all_goals simp [e2,e5,e6,m2,m5,b9,tx,num]
theorem a5a (sc pa qu fr:Tx) (hq hf:Bool) (h1:sc.length < 1099511627776) (h3:pa.length < 1099511627776) (h4:qu.length < 1099511627776) (h5:fr.length < 1099511627776) (r:Tx) (hr:r.length < 1099511627776) (st:St)
 (h:UP st ⟨sc,[],[],0,pa,qu,fr,hq,hf⟩ r):EC Tryz.prog ir199_from14 st (K:=prs (y4 ⟨sc,if 64∈r then i6 r 64 else [],o8 (i6 (if 64∈r then k7 r 64 else r) 58),0,pa,qu,fr,hq,hf⟩ (if 64∈r then k7 r 64 else r))):=by
 unfold ir199_from14
 obtain ⟨e2,e5,e6,m2,m5⟩:=h
 have hle:=U8 r 64
 simp [e2,e5,e6,m2,m5,tx,num,b7]
 refine b8 rfl rfl (.inl rfl) (W3 r 64 hr) ?_
 by_cases hc:64∈r
 · have hlt:=L2.2 hc
   have g2:IntKind.i64.wrap ((k8 r 64:Nat)+1:Int)=((k8 r 64+1:Nat):Int):=by rw [wrap_i64 (by omega) (by omega)];omega
   have g3:k8 r 64+1≤r.length:=by omega
   have g4:(0:Int)≤((k8 r 64:Nat):Int)+1:=by omega
   simp [e2,e5,e6,m2,m5,tx,num,b7,b9,hlt,hle,g2,g3,g4,l6,a0p]
   have e:(if 64∈r then k7 r 64 else r)=k7 r 64:=if_pos hc
   rw [if_pos hc,e]
   refine a49 sc (i6 r 64) pa qu fr hq hf h1 (by have:=o7 r 64;omega) h3 h4 h5 (k7 r 64) (by have:=Q1 r 64;omega) _ ⟨?_,?_,?_,?_,?_⟩<;>simp [e2,e5,e6,m2,m5,b9,tx,num,i6,k7]
 · have hge:k8 r 64=r.length:=by have:=mt L2.1 hc;omega
   simp [e2,e5,e6,m2,m5,tx,num,b7,hge]
   have e:(if 64∈r then k7 r 64 else r)=r:=if_neg hc
   rw [if_neg hc,e]
   refine a49 sc [] pa qu fr hq hf h1 (by simp) h3 h4 h5 r hr _ ⟨?_,?_,?_,?_,?_⟩<;>simp [e2,e5,e6,m2,m5,b9,tx,num]
def a7f (sc pa qu fr:Tx) (hq hf:Bool) (r:Tx):LUrl×Bool:=
 y4 ⟨sc,if 64∈r then i6 r 64 else [],o8 (i6 (if 64∈r then k7 r 64 else r) 58),0,pa,qu,fr,hq,hf⟩ (if 64∈r then k7 r 64 else r)
theorem b02 (sc qu fr:Tx) (hq hf:Bool) (h1:sc.length < 1099511627776) (h4:qu.length < 1099511627776) (h5:fr.length < 1099511627776) (r:Tx) (hr:r.length < 1099511627776) (st:St)
 (h:UP st ⟨sc,[],[],0,r.drop (k8 r 47),qu,fr,hq,hf⟩ r) (e4:st.env 4=.val (num (k8 r 47))):EC Tryz.prog ir199_from12 st (K:=prs (a7f sc (if 47∈r then r.drop (k8 r 47) else [47]) qu fr hq hf (i6 r 47))):=by
 unfold ir199_from12
 obtain ⟨e2,e5,e6,m2,m5⟩:=h
 have hle:=U8 r 47
 have e3:(⟨#[]⟩:ByteArray)=bs []:=rfl
 by_cases hc:47∈r
 · have hlt:=L2.2 hc
   have hne:¬ r.drop (k8 r 47)=[]:=by
    intro e;have:=congrArg List.length e;simp at this;omega
   have hne2:¬ r.length≤k8 r 47:=by omega
   rw [if_pos hc]
   simp [e2,e4,e5,e6,m2,m5,tx,num,b7,b9,e3,l5,hne,hne2,hle,l6]
   refine a5a sc (r.drop (k8 r 47)) qu fr hq hf h1 (by simp;omega) h4 h5 (i6 r 47) (by have:=o7 r 47;omega) _ ⟨?_,?_,?_,?_,?_⟩<;>simp [e2,e5,e6,m2,m5,b9,tx,num,i6]
 · have hge:k8 r 47=r.length:=by have:=mt L2.1 hc;omega
   have e4':(⟨#[47]⟩:ByteArray)=bs [47]:=rfl
   rw [if_neg hc]
   simp [e2,e4,e5,e6,m2,m5,tx,num,b7,b9,e3,e4',l5,hge,l6]
   refine a5a sc [47] qu fr hq hf h1 (by simp) h4 h5 (i6 r 47) (by have:=o7 r 47;omega) _ ⟨?_,?_,?_,?_,?_⟩<;>simp [e2,e5,e6,m2,m5,b9,tx,num,i6,hge]
def a3w (sc qu fr:Tx) (hq hf:Bool) (r:Tx):LUrl×Bool:=a7f sc (if 47∈r then r.drop (k8 r 47) else [47]) qu fr hq hf (i6 r 47)
theorem a5b (sc qu fr:Tx) (hq hf:Bool) (h1:sc.length < 1099511627776) (h4:qu.length < 1099511627776) (h5:fr.length < 1099511627776) (r:Tx) (hr:r.length < 1099511627776) (st:St)
 (h:UP st ⟨sc,[],[],0,[],qu,fr,hq,hf⟩ r):EC Tryz.prog ir199_from10 st (K:=prs (a3w sc qu fr hq hf r)):=by
 unfold ir199_from10
 obtain ⟨e2,e5,e6,m2,m5⟩:=h
 have hle:=U8 r 47
 simp [e2,e5,e6,m2,m5,tx,num,b7]
 refine b8 rfl rfl (.inl rfl) (W3 r 47 hr) ?_
 simp [e2,e5,e6,m2,m5,tx,num,b7,hle,l6,b9,a0p]
 refine b02 sc qu fr hq hf h1 h4 h5 r hr _ ⟨?_,?_,?_,?_,?_⟩ ?_<;>simp [e2,e5,e6,m2,m5,b9,tx,num]
theorem a6q (sc fr:Tx) (hf:Bool) (h1:sc.length < 1099511627776) (h5:fr.length < 1099511627776) (r:Tx) (hr:r.length < 1099511627776) (st:St)
 (h:UP st ⟨sc,[],[],0,[],[],fr,false,hf⟩ r):EC Tryz.prog ir199_from9 st (K:=prs (a3w sc (k7 r 63) fr (decide (63∈r)) hf (i6 r 63))):=by
 unfold ir199_from9
 obtain ⟨e2,e5,e6,m2,m5⟩:=h
 have hle:=U8 r 63
 simp [e2,e5,e6,m2,m5,tx,num,b7]
 refine b8 rfl rfl (.inl rfl) (W3 r 63 hr) ?_
 by_cases hc:63∈r
 · have hlt:=L2.2 hc
   have g2:IntKind.i64.wrap ((k8 r 63:Nat)+1:Int)=((k8 r 63+1:Nat):Int):=by rw [wrap_i64 (by omega) (by omega)];omega
   have g3:k8 r 63+1≤r.length:=by omega
   have g4:(0:Int)≤((k8 r 63:Nat):Int)+1:=by omega
   simp [e2,e5,e6,m2,m5,tx,num,b7,b9,hlt,hle,g2,g3,g4,l6,a0p]
   rw [decide_eq_true hc]
   refine a5b sc (k7 r 63) fr true hf h1 (by have:=Q1 r 63;omega) h5 (i6 r 63) (by have:=o7 r 63;omega) _ ⟨?_,?_,?_,?_,?_⟩<;>simp [e2,e5,e6,m2,m5,b9,tx,num,i6,k7]
 · have hge:k8 r 63=r.length:=by have:=mt L2.1 hc;omega
   simp [e2,e5,e6,m2,m5,tx,num,b7,hge]
   rw [decide_eq_false hc,a2m hc,a4n hc]
   refine a5b sc [] fr false hf h1 (by simp) h5 r hr _ ⟨?_,?_,?_,?_,?_⟩<;>simp [e2,e5,e6,m2,m5,b9,tx,num]
theorem b2d (sc:Tx) (h1:sc.length < 1099511627776) (r:Tx) (hr:r.length < 1099511627776) (st:St)
 (h:UP st ⟨sc,[],[],0,[],[],[],false,false⟩ r):EC Tryz.prog ir199_from8 st (K:=prs (a22 sc r)):=by
 unfold ir199_from8
 obtain ⟨e2,e5,e6,m2,m5⟩:=h
 have hle:=U8 r 35
 have e:a22 sc r=a3w sc (k7 (i6 r 35) 63) (k7 r 35) (decide (63∈i6 r 35)) (decide (35∈r)) (i6 (i6 r 35) 63):=rfl
 rw [e]
 simp [e2,e5,e6,m2,m5,tx,num,b7]
 refine b8 rfl rfl (.inl rfl) (W3 r 35 hr) ?_
 by_cases hc:35∈r
 · have hlt:=L2.2 hc
   have g2:IntKind.i64.wrap ((k8 r 35:Nat)+1:Int)=((k8 r 35+1:Nat):Int):=by rw [wrap_i64 (by omega) (by omega)];omega
   have g3:k8 r 35+1≤r.length:=by omega
   have g4:(0:Int)≤((k8 r 35:Nat):Int)+1:=by omega
   simp [e2,e5,e6,m2,m5,tx,num,b7,b9,hlt,hle,g2,g3,g4,l6,a0p]
   rw [decide_eq_true hc]
   refine a6q sc (k7 r 35) true h1 (by have:=Q1 r 35;omega) (i6 r 35) (by have:=o7 r 35;omega) _ ⟨?_,?_,?_,?_,?_⟩<;>simp [e2,e5,e6,m2,m5,b9,tx,num,i6,k7]
 · have hge:k8 r 35=r.length:=by have:=mt L2.1 hc;omega
   simp [e2,e5,e6,m2,m5,tx,num,b7,hge]
   rw [decide_eq_false hc,a2m hc,a4n hc]
   refine a6q sc [] false h1 (by simp) r hr _ ⟨?_,?_,?_,?_,?_⟩<;>simp [e2,e5,e6,m2,m5,b9,tx,num]
theorem b2e (sc:Tx) (h1:sc.length < 1099511627776) (r:Tx) (hr:r.length < 1099511627776) (st:St)
 (h:UP st ⟨sc,[],[],0,[],[],[],false,false⟩ r):EC Tryz.prog ir199_from5 st (K:=prs (if K7 sc then if r.take 2=[47,47] then a22 sc (r.drop 2) else (LUrl.zero,false) else (⟨sc,[],[],0,i6 (i6 r 35) 63,[],[],false,false⟩,n0 ⟨sc,[],[],0,i6 (i6 r 35) 63,[],[],false,false⟩))):=by
 unfold ir199_from5
 obtain ⟨e2,e5,e6,m2,m5⟩:=h
 have e7:(⟨#[47,47]⟩:ByteArray)=bs [47,47]:=rfl
 simp [e2,e5,e6,m2,m5,tx,num,b7,b9]
 refine b8 rfl rfl (.inl rfl) (a2b sc) ?_
 by_cases hw:K7 sc=true
 · rw [if_pos hw]
   by_cases h2:r.length < 2
   · have h2':(r.length:Int) < 2:=by omega
     have ht:¬ r.take 2=[47,47]:=fun e=>by have:=congrArg List.length e;simp at this;omega
     rw [if_neg ht]
     simp [e2,e5,e6,m2,m5,tx,num,b7,b9,hw,h2']
     refine S5 _ ?_ ?_ ?_
     · simp [e2]
     · simp [b9,LUrl.zero,tx,num,bs]
     · simp
   · have h2':¬ (r.length:Int) < 2:=by omega
     have h2'':(2:Int)≤r.length:=by omega
     have h2n:2≤r.length:=by omega
     by_cases ht:r.take 2=[47,47]
     · rw [if_pos ht]
       simp [e2,e5,e6,m2,m5,tx,num,b7,b9,hw,h2',h2'',h2n,e7,l6,ht,a0p]
       refine b2d sc h1 (r.drop 2) (by simp;omega) _ ⟨?_,?_,?_,?_,?_⟩<;>simp [e2,e5,e6,m2,m5,b9,tx,num]
     · rw [if_neg ht]
       simp [e2,e5,e6,m2,m5,tx,num,b7,b9,hw,h2',h2'',h2n,e7,l6,l5,ht]
       refine S5 _ ?_ ?_ ?_
       · simp [e2]
       · simp [b9,LUrl.zero,tx,num,bs]
       · simp
 · rw [if_neg hw]
   have hl1:=U8 r 35
   have hl2:=U8 (i6 r 35) 63
   have hl3:=o7 r 35
   have hl4:=o7 (i6 r 35) 63
   simp [e2,e5,e6,m2,m5,tx,num,b7,b9,hw]
   refine b8 rfl rfl (.inl rfl) (W3 r 35 hr) ?_
   simp [e2,e5,e6,m2,m5,tx,num,b7,b9,hw,hl1,l6]
   refine b8 rfl rfl (.inl rfl) (W3 (i6 r 35) 63 (by omega)) ?_
   have hl2':k8 (i6 r 35) 63≤k8 r 35∧k8 (i6 r 35) 63≤r.length:=by
    refine ⟨?_,by omega⟩
    have:(i6 r 35).length≤k8 r 35:=by unfold i6;simp;omega
    omega
   have hl2i:((k8 (i6 r 35) 63:Nat):Int)≤(min (k8 r 35) r.length:Nat):=by omega
   simp [e2,e5,e6,m2,m5,tx,num,b7,b9,hw,hl1,hl2',l6,d9]
   refine j6 rfl rfl (.inl rfl) (b59 ⟨sc,[],[],0,i6 (i6 r 35) 63,[],[],false,false⟩ ⟨h1,by simp,by simp,by show (i6 (i6 r 35) 63).length < _;omega,by simp,by simp,by show (0:Int)≤_;omega⟩) ?_
   simp [e2,e5,e6,m2,m5,tx,num,b7,b9,hw,hl1,l6,d9]
   refine a28 (id:=2) ?_ ?_ ?_
   · simp [e2]
   · simp [b9,tx,num,i6]
   · simp
theorem a2u (t:Tx) (ht:t.length < 1099511627776):f9 Tryz.prog 199 [.val (tx t)] (.ret (U7 (o0 t)) []) []:=by
 refine f8 mixed ok199 rfl (fun _=>rfl) ?_
 unfold ir199
 rw [d8]
 have hle:=U8 t 58
 simp [f7,j4,k9,d7,f5,tx,num,b7]
 refine b8 rfl rfl (.inl rfl) (W3 t 58 ht) ?_
 by_cases hc:58∈t
 · have hlt:=L2.2 hc
   have hne:¬ ((k8 t 58:Nat):Int)=(t.length:Int):=by omega
   have hne':¬ k8 t 58=t.length:=by omega
   have g2:IntKind.i64.wrap ((k8 t 58:Nat)+1:Int)=((k8 t 58+1:Nat):Int):=by rw [wrap_i64 (by omega) (by omega)];omega
   have g3:k8 t 58+1≤t.length:=by omega
   have g4:(0:Int)≤((k8 t 58:Nat):Int)+1:=by omega
   simp [tx,num,b7,hlt,hle,hne,hne',l6]
   refine b8 rfl rfl (.inl rfl) (a9c (i6 t 58) (by have:=o7 t 58;omega)) ?_
   simp [tx,num,b7,hlt,hle,hne,hne',g2,g3,g4,l6,a0p]
   rw [show o0 t=(if K7 (o8 (i6 t 58)) then if (k7 t 58).take 2=[47,47] then a22 (o8 (i6 t 58)) ((k7 t 58).drop 2) else (LUrl.zero,false) else (⟨o8 (i6 t 58),[],[],0,i6 (i6 (k7 t 58) 35) 63,[],[],false,false⟩,n0 ⟨o8 (i6 t 58),[],[],0,i6 (i6 (k7 t 58) 35) 63,[],[],false,false⟩)) by unfold o0;rw [if_pos hc]]
   refine b2e (o8 (i6 t 58)) (by have:=o7 t 58;simp [o8];omega) (k7 t 58) (by have:=Q1 t 58;omega) _ ⟨?_,?_,?_,?_,?_⟩<;>simp [b9,tx,num,LUrl.zero,bs,k7]
 · have hge:k8 t 58=t.length:=by have:=mt L2.1 hc;omega
   rw [show o0 t=(LUrl.zero,false) by unfold o0;rw [if_neg hc]]
   simp [tx,num,b7,hge]
   refine S5 _ ?_ ?_ ?_
   · simp
   · simp [b9,LUrl.zero,tx,num,bs]
   · simp
end Go.Proofs
end
section
namespace Go.Proofs
open Go.PW Go.KP
variable [GF]
structure TO (st:St) (x:LTarget) (u:LUrl):Prop where
 e1:st.env 1=.ptr 1 0
 e3:st.env 3=.ptr 3 0
 m1:st.mem 1=.box [.val (tx x.url),.val (num x.prio),.val (num x.weight)]
 m3:st.mem 3=.box (b9 u)
end Go.Proofs
end
section
namespace Go.Proofs
open Go.PW Go.KP
variable [GF]
end Go.Proofs
end
section
namespace Go.Proofs
open Go.PW Go.KP
attribute [local simp] RV.cells RV.one PV.cells PV.solid PV.one o9 d9 l4 l0 RV.ofCells elems PV.killL
variable [GF]
theorem a3d {c:UInt8} (h:m0 c=true):Y6 c=true:=by simp [Y6,h]
theorem b7i (t:Tx) (ht:t.length < 1099511627776):f9 Tryz.prog 134 [.val (tx t)] (.ret (.val (.bool (R3 t))) []) []:=by
 refine f8 mixed ok134 rfl (fun _=>rfl) ?_
 unfold ir134
 rw [d8]
 simp [f7,j4,k9,d7,f5,tx,b7]
 refine b8 rfl rfl (.inl rfl) (a2v .i64 t.length 1 24) ?_
 by_cases hlen:1≤t.length∧t.length≤24
 rotate_left
 · rw [show decide ((1:Int)≤t.length∧(t.length:Int)≤24)=false from decide_eq_false (by omega)]
   have:R3 t=false:=by unfold R3;rw [decide_eq_false hlen];rfl
   simp [this]
 rw [show decide ((1:Int)≤t.length∧(t.length:Int)≤24)=true from decide_eq_true (by omega)]
 have hw:R3 t=X3 m0 Y6 t:=by unfold R3;rw [decide_eq_true hlen];rfl
 simp
 refine y8 (X:=Nat) (fun i=>⟨D2 [(0,.val (.str (bs t))),(3,.val (.int .i64 i))],D0 []⟩) (fun i=>i≤t.length∧X3 m0 Y6 (t.take i)=true) (fun i=>t.length - i) 0 (Le.mk _ _ ?_ ?_) ?_ ?_
 · simp [upd]
 · simp
 · simp [X3]
 · rintro i ⟨hi,hall⟩
   simp [b7,f6]
   refine j7 (fun h3=>?_) (fun h3=>?_)
   · have hstep:=a5l (p:=m0) (q:=Y6) (fun _ h=>a3d h) t i h3
     rw [hall,Bool.true_and] at hstep
     have a19:=a4f (p:=m0) (q:=Y6) t i h3
     have e1:((t[i].toNat:Int) < 97)↔t[i].toNat < 97:=by omega
     have e2:((122:Int) < t[i].toNat)↔122 < t[i].toNat:=by omega
     have e3:((t[i].toNat:Int)=45)↔t[i].toNat=45:=by omega
     have hgood:(if i=0 then m0 t[i] else Y6 t[i])=true→∀ st':St,st'.env 0=.val (.str (bs t))→st'.env 3=.val (.int .i64 (IntKind.i64.wrap ((i:Int)+1))) →
      ∃ x',(x'≤t.length∧X3 m0 Y6 (t.take x')=true)∧t.length - x' < t.length - i∧Le st' ⟨D2 [(0,.val (.str (bs t))),(3,.val (.int .i64 (x':Int)))],D0 []⟩:=fun hg st' q1 q2=>by
      refine ⟨i+1,⟨by omega,by rw [hstep,hg]⟩,by omega,Le.mk _ _ ?_ ?_⟩
      · simp [q1,q2];exact wrap_i64 (by omega) (by omega)
      · simp
     have hres:(if i=0 then m0 t[i] else Y6 t[i])=false→R3 t=false:=fun h=>by rw [hw];exact a19 h
     by_cases a4:i=0
     · rw [if_pos a4] at hgood hres
       by_cases a1:t[i].toNat < 97
       · have hr:=hres (by simp [m0];omega)
         by_cases a3:t[i].toNat=45
         · simp [b7,f6,h3,e1,e3,a1,a3,(eq_true a4:(i=0)=True),hr]
         · simp [b7,f6,h3,e1,e3,a1,a3,hr]
       · by_cases a2:122 < t[i].toNat
         · have hr:=hres (by simp [m0];omega)
           have a3:¬ t[i].toNat=45:=by omega
           simp [b7,f6,h3,e1,e2,e3,a1,a2,a3,hr]
         · simp [b7,f6,h3,e1,e2,e3,a1,a2]
           exact hgood (by simp [m0];omega) _ (by simp) (by simp)
     · rw [if_neg a4] at hgood hres
       by_cases a1:t[i].toNat < 97
       · by_cases a3:t[i].toNat=45
         · simp [b7,f6,h3,e1,e3,a1,a3,a4]
           exact hgood (by simp [Y6,a3]) _ (by simp) (by simp)
         · have hr:=hres (by simp [Y6,m0,a3];omega)
           simp [b7,f6,h3,e1,e3,a1,a3,hr]
       · by_cases a2:122 < t[i].toNat
         · have a3:¬ t[i].toNat=45:=by omega
           have hr:=hres (by simp [Y6,m0,a3];omega)
           simp [b7,f6,h3,e1,e2,e3,a1,a2,a3,hr]
         · simp [b7,f6,h3,e1,e2,e3,a1,a2]
           exact hgood (by simp [Y6,m0];omega) _ (by simp) (by simp)
   · have e:i=t.length:=by omega
     subst e
     rw [List.take_length] at hall
     simp [hw,hall]
theorem b9f (l:List Tx) (t:Tx) (hl:l.length < 1099511627776):f9 Tryz.prog 192 [.val (.list 1 (l.map tx)),.val (tx t)] (.ret (.val (.bool (decide (t∈l)))) []) []:=by
 refine f8 mixed ok192 rfl (fun _=>rfl) ?_
 unfold ir192
 rw [d8]
 simp [f7,j4,k9,d7,f5,num]
 refine y8 (X:=Nat) (fun i=>⟨D2 [(0,.val (.list 1 (l.map tx))),(1,.val (tx t)),(5,.val (num i))],D0 []⟩) (fun i=>i≤l.length∧t∉l.take i) (fun i=>l.length - i) 0 (Le.mk _ _ ?_ ?_) ?_ ?_
 · simp [upd,num]
 · simp
 · simp
 · rintro i ⟨hi,hne⟩
   simp [num]
   refine j7 (fun h1=>?_) (fun h1=>?_)
   · have e1:(l.map tx)[i]?.getD .nilptr=tx l[i]:=by simp [List.getElem?_eq_getElem h1]
     simp [num,h1,e1,tx,l5]
     by_cases hu:l[i]=t
     · have:t∈l:=by rw [← hu];exact List.getElem_mem h1
       simp [hu,this]
     · simp [hu]
       refine LoopNext.mk (i+1) ⟨by omega,?_⟩ (by omega) (Le.mk _ _ ?_ ?_)
       · rw [List.take_add_one,List.getElem?_eq_getElem h1,List.mem_append]
         rintro (e | e)
         · exact hne e
         · exact hu (by simpa using e:t=l[i]).symm
       · simp [num,tx];exact wrap_i64 (by omega) (by omega)
       · simp
   · have e:i=l.length:=by omega
     subst e
     rw [List.take_length] at hne
     simp [hne]
end Go.Proofs
end
