/- Ca: merged out of KSa, KSb, KSc, KSd, KSe, KSr, KSk, KSw. -/
import Derived.Test.YtfoapolbgpjfaaaGreatDoorBa
import Derived.Test.YtfoapolbgpjfaaaGreatDoorAc
set_option linter.unusedSectionVars false
set_option linter.unusedSimpArgs false
set_option linter.unusedVariables false
set_option maxRecDepth 100000
section
namespace Go.Proofs
open Go.PW Go.KP
attribute [local simp] RV.cells RV.one PV.cells PV.solid PV.one N3 b8 O9 P0 RV.ofCells elems PV.killL
theorem mixed:Tryz.prog.follows .mixedOrders=true:=by kernel_rfl
variable [GF]
theorem a6j (k:IntKind) (a lo hi:Int):z6 Tryz.prog 129 [.val (.int k a),.val (.int k lo),.val (.int k hi)] (.ret (.val (.bool (decide (lo≤a∧a≤hi)))) []) []:=by
 refine K4 mixed ok129 rfl (fun _=>rfl) ?_
 unfold ir129
 rw [d9]
 by_cases h:lo≤a
 · simp [w8,J8,P1,b9,q8,h]
 · simp [w8,J8,P1,b9,q8,h]
theorem Z8 (t:Tx) (c:UInt8) (ht:t.length < 1099511627776):z6 Tryz.prog 198 [.val (tx t),.val (rvb c)] (.ret (.val (num (P4 t c))) []) []:=by
 refine K4 mixed ok198 rfl (fun _=>rfl) ?_
 unfold ir198
 rw [d9]
 simp only [x4,F1,x6,E9,x7,p9,x5,F0,j5,A1,F8,F9,d8,o0,o9,i8,x8,p8,j4,E8,x1,p7,p6,C9,D0,T4,T5,Option.getD_some,Option.getD_none,B6,q9,l8,C6,l7,l1,C8,l2,C7,C5,C4,G5,u6,l5,C2,t8,l4,C1,B4,C3,u0,B9,k8,t7,C0,G7,G6,B5,B7,l3,B8,u7,l6,A4,j7,B3,B2,B1,G0,s9,j9,A9,s0,j8,A8,A2,B0,s8,A6,j6,r9,A7,G4,G3,A3,r8,k7,A5,t6,k6,I3,I2,J4,I4,I8,I6,I5,J3,I7,I9,J0,J1,J2,y7,y6,x9,K5,K6,F7,F2,r5,D4,v6,J6,q7,O0,K9,J7,M3,M5,M4,O1,O2,H5,H7,H6,H8,H9,L9,v8,L8,D5,D6,D7,w5,T6,E5,w9,N8,N9,G8,K7,K8,Option.map_some,Option.map_none,D8,w6,u9,l9,D2,D3,H0,G9,N0,M9,I1,E6,E7,I0,M6,M7,H1,n7,H2,n0,L4,E4,E3,j3,M2,M8,H4,L5,L7,L6,v7,z7,A0,z8,f7,M1,O4,O3,L2,H3,Q1,L3,n8,E1,E2,w7,D9,i7,r6,i6,r7,f8,J5,N1,N2,y8,y9,F4,F3,D1,w8,J8,P1,b9,q8,tx,rvb,num]
 refine S1 (X:=Nat) (fun i=>⟨S7 [(0,.val (.str (bs t))),(1,.val (.int .u8 c.toNat)),(5,.val (.int .i64 i))],S0 []⟩) (fun i=>i≤t.length∧∀ k,k < i→t.getD k 0≠c) (fun i=>t.length - i) 0 (Le.mk _ _ ?_ ?_) ?_ ?_
 · simp [upd]
 · simp
 · simp
 · rintro i ⟨hi,hne⟩
   simp [b7,z1,c28]
   refine O5 (fun h1=>?_) (fun h1=>?_)
   · simp [b7,z1,c28,h1]
     refine O5 (fun h2=>?_) (fun h2=>?_)
     · simp
       rw [b6u t c i hi hne (.inr (by rw [a0w _ _ _ h1];exact h2))];rfl
     · simp
       refine LoopNext.mk (i+1) ⟨by omega,fun k hk=>?_⟩ (by omega) (Le.mk _ _ ?_ ?_)
       · by_cases e:k=i
         · subst e;simpa [List.getElem?_eq_getElem h1] using h2
         · simpa using hne k (by omega)
       · simp [F7,r5];rw [wrap_i64 (by omega) (by omega)]
       · simp
   · have e:i=t.length:=by omega
     simp [b7]
     rw [b6u t c i hi hne (.inl e),e];rfl
theorem a8f (t:Tx):z6 Tryz.prog 200 [.val (tx t)] (.ret (.val (.bool (a0b t))) []) []:=by
 refine K4 mixed ok200 rfl (fun _=>rfl) ?_
 unfold ir200
 rw [d9]
 have e1:(⟨#[104,116,116,112]⟩:ByteArray)=bs a48:=rfl
 have e2:(⟨#[104,116,116,112,115]⟩:ByteArray)=bs a64:=rfl
 by_cases h:t=a48
 · simp [w8,J8,P1,b9,q8,tx,e1,e2,R3,a0b,h]
 · by_cases h':t=a64
   · subst h'
     simp [w8,J8,P1,b9,q8,tx,e1,e2,R3,a0b,show ¬ a64=a48 by decide]
   · simp [w8,J8,P1,b9,q8,tx,e1,e2,R3,a0b,h,h']
theorem b2n (t:Tx):z6 Tryz.prog 241 [.val (tx t)] (.ret (.val (num (Y5 t))) []) []:=by
 refine K4 mixed ok241 rfl (fun _=>rfl) ?_
 unfold ir241
 rw [d9]
 have e1:(⟨#[104,116,116,112]⟩:ByteArray)=bs a48:=rfl
 by_cases h:t=a48
 · simp [w8,J8,P1,b9,q8,tx,e1,R3,Y5,h,num]
 · simp [w8,J8,P1,b9,q8,tx,e1,R3,Y5,h,num]
theorem a1g (c:UInt8):z6 Tryz.prog 215 [.val (rvb c)] (.ret (.val (.bool (P8 c))) []) []:=by
 refine K4 mixed ok215 rfl (fun _=>rfl) ?_
 unfold ir215
 rw [d9]
 have e1:((48:Int)≤c.toNat)↔48≤c.toNat:=by omega
 have e2:((c.toNat:Int)≤57)↔c.toNat≤57:=by omega
 by_cases h:48≤c.toNat
 · simp [w8,J8,P1,b9,q8,rvb,P8,h,e1,e2]
 · simp [w8,J8,P1,b9,q8,rvb,P8,h,e1,e2]
theorem b8z {c:UInt8} (h1:65≤c.toNat) (h2:c.toNat≤90):(c.toNat:Int)+32=((c+32).toNat:Int):=by
 rw [UInt8.toNat_add]
 simp
 omega
theorem b2o (t:Tx) (ht:t.length < 1099511627776):z6 Tryz.prog 133 [.val (tx t)] (.ret (.val (tx (R9 t))) []) []:=by
 refine K4 mixed ok133 rfl (fun _=>rfl) ?_
 unfold ir133
 rw [d9]
 simp only [x4,F1,x6,E9,x7,p9,x5,F0,j5,A1,F8,F9,d8,o0,o9,i8,x8,p8,j4,E8,x1,p7,p6,C9,D0,T4,T5,Option.getD_some,Option.getD_none,B6,q9,l8,C6,l7,l1,C8,l2,C7,C5,C4,G5,u6,l5,C2,t8,l4,C1,B4,C3,u0,B9,k8,t7,C0,G7,G6,B5,B7,l3,B8,u7,l6,A4,j7,B3,B2,B1,G0,s9,j9,A9,s0,j8,A8,A2,B0,s8,A6,j6,r9,A7,G4,G3,A3,r8,k7,A5,t6,k6,I3,I2,J4,I4,I8,I6,I5,J3,I7,I9,J0,J1,J2,y7,y6,x9,K5,K6,F7,F2,r5,D4,v6,J6,q7,O0,K9,J7,M3,M5,M4,O1,O2,H5,H7,H6,H8,H9,L9,v8,L8,D5,D6,D7,w5,T6,E5,w9,N8,N9,G8,K7,K8,Option.map_some,Option.map_none,D8,w6,u9,l9,D2,D3,H0,G9,N0,M9,I1,E6,E7,I0,M6,M7,H1,n7,H2,n0,L4,E4,E3,j3,M2,M8,H4,L5,L7,L6,v7,z7,A0,z8,f7,M1,O4,O3,L2,H3,Q1,L3,n8,E1,E2,w7,D9,i7,r6,i6,r7,f8,J5,N1,N2,y8,y9,F4,F3,D1,w8,J8,P1,b9,q8,tx,elems]
 refine S1 (X:=Nat) (fun i=>⟨S7 [(0,.val (.str (bs t))),(3,.own 6),(4,.val (.int .i64 i))],S0 [(6,.row 5 1 ((R9 (t.take i)).map rvb))]⟩) (fun i=>i≤t.length) (fun i=>t.length - i) 0 (Le.mk _ _ ?_ ?_) ?_ ?_
 · simp [upd,PV.kill]
 · simp [upd,R9]
 · simp
 · rintro i hi
   simp [b7,z1,elems]
   refine O5 (fun h1=>?_) (fun h1=>?_)
   · have hnext:∀ st':St,st'.env 0=.val (.str (bs t))→st'.env 3=.own 6→st'.env 4=.val (.int .i64 ((i:Int)+1))→st'.mem 6=.row 5 1 ((R9 (t.take i)).map rvb++[rvb (b6q (t.getD i 0))]) →
      ∃ x',x'≤t.length∧t.length - x' < t.length - i∧Le st' ⟨S7 [(0,.val (.str (bs t))),(3,.own 6),(4,.val (.int .i64 (x':Int)))],S0 [(6,.row 5 1 ((R9 (t.take x')).map rvb))]⟩:=fun st' q1 q2 q3 q4=>by
      refine ⟨i+1,by omega,by omega,Le.mk _ _ ?_ ?_⟩
      · simp [q1,q2,q3]
      · simp only [List.mem_singleton,forall_eq,q4]
        rw [b3j t i 0 h1]
        simp [R9]
     have hlen:(R9 (t.take i)).length=i:=by simp [R9];omega
     have e1:((65:Int)≤(t[i].toNat:Int))↔65≤t[i].toNat:=by omega
     have e2:((t[i].toNat:Int)≤90)↔t[i].toNat≤90:=by omega
     by_cases h2:65≤t[i].toNat
     · by_cases h3:t[i].toNat≤90
       · simp [b7,z1,h1,e1,e2,h2,h3,hlen]
         refine ⟨by omega,by omega,hnext _ ?_ ?_ ?_ ?_⟩
         · simp [F7]
         · simp [F7]
         · simp [F7];exact wrap_i64 (by omega) (by omega)
         · rw [a0w _ _ _ h1]
           simp [F7,rvb,b6q,h2,h3]
           rw [b8z h2 h3]
           have:=(t[i]+32).toNat_lt
           rw [a19 (by omega) (by omega)]
           omega
       · simp [b7,z1,h1,e1,e2,h2,h3,hlen]
         refine ⟨by omega,by omega,hnext _ ?_ ?_ ?_ ?_⟩
         · simp [F7]
         · simp [F7]
         · simp [F7];exact wrap_i64 (by omega) (by omega)
         · rw [a0w _ _ _ h1]
           simp [F7,rvb,b6q,h2,h3]
     · simp [b7,z1,h1,e1,e2,h2,hlen]
       refine ⟨by omega,by omega,hnext _ ?_ ?_ ?_ ?_⟩
       · simp [F7]
       · simp [F7]
       · simp [F7];exact wrap_i64 (by omega) (by omega)
       · rw [a0w _ _ _ h1]
         simp [F7,rvb,b6q,h2]
   · have e:i=t.length:=by omega
     subst e
     have e1:(R9 t).map rvb=(R9 (t.take t.length)).map rvb:=by simp
     simp [b7]
     exact ⟨fun x _=>rfl,by rw [a5z];rfl⟩
theorem a6i (t wo:Tx) (ht:t.length < 1099511627776) (hw:wo.length < 1099511627776):z6 Tryz.prog 269 [.val (tx t),.val (tx wo)] (.ret (.val (.bool (X3 t wo))) []) []:=by
 refine K4 mixed ok269 rfl (fun _=>rfl) ?_
 unfold ir269
 rw [d9]
 simp only [x4,F1,x6,E9,x7,p9,x5,F0,j5,A1,F8,F9,d8,o0,o9,i8,x8,p8,j4,E8,x1,p7,p6,C9,D0,T4,T5,Option.getD_some,Option.getD_none,B6,q9,l8,C6,l7,l1,C8,l2,C7,C5,C4,G5,u6,l5,C2,t8,l4,C1,B4,C3,u0,B9,k8,t7,C0,G7,G6,B5,B7,l3,B8,u7,l6,A4,j7,B3,B2,B1,G0,s9,j9,A9,s0,j8,A8,A2,B0,s8,A6,j6,r9,A7,G4,G3,A3,r8,k7,A5,t6,k6,I3,I2,J4,I4,I8,I6,I5,J3,I7,I9,J0,J1,J2,y7,y6,x9,K5,K6,F7,F2,r5,D4,v6,J6,q7,O0,K9,J7,M3,M5,M4,O1,O2,H5,H7,H6,H8,H9,L9,v8,L8,D5,D6,D7,w5,T6,E5,w9,N8,N9,G8,K7,K8,Option.map_some,Option.map_none,D8,w6,u9,l9,D2,D3,H0,G9,N0,M9,I1,E6,E7,I0,M6,M7,H1,n7,H2,n0,L4,E4,E3,j3,M2,M8,H4,L5,L7,L6,v7,z7,A0,z8,f7,M1,O4,O3,L2,H3,Q1,L3,n8,E1,E2,w7,D9,i7,r6,i6,r7,f8,J5,N1,N2,y8,y9,F4,F3,D1,w8,J8,P1,b9,q8,tx]
 refine S1 (X:=Nat) (fun i=>⟨S7 [(0,.val (.str (bs t))),(1,.val (.str (bs wo))),(5,.val (.int .i64 i))],S0 []⟩) (fun i=>i≤t.length∧X3 (t.take i) wo=true) (fun i=>t.length - i) 0 (Le.mk _ _ ?_ ?_) ?_ ?_
 · simp [upd]
 · simp
 · simp [X3]
 · rintro i ⟨hi,hall⟩
   simp [b7,z1]
   refine O5 (fun h1=>?_) (fun h1=>?_)
   · have hstep:X3 (t.take (i+1)) wo=(decide (33≤t[i].toNat∧t[i].toNat≤126) && !decide (t[i]∈wo)):=by
      unfold X3 at hall ⊢
      rw [a06 t _ i h1,hall,Bool.true_and]
     have a2x:(decide (33≤t[i].toNat∧t[i].toNat≤126) && !decide (t[i]∈wo))=false→X3 t wo=false:=fun hb=>by
      unfold X3
      rw [List.all_eq_false]
      exact ⟨t[i],List.getElem_mem h1,by simpa using hb⟩
     have e1:((t[i].toNat:Int) < 33)↔t[i].toNat < 33:=by omega
     have e2:((126:Int) < (t[i].toNat:Int))↔126 < t[i].toNat:=by omega
     by_cases h2:33≤t[i].toNat
     · have h2':¬ t[i].toNat < 33:=by omega
       by_cases h3:126 < t[i].toNat
       · simp [b7,z1,h1,e1,e2,h2,h2',h3]
         exact a2x (by simp;omega)
       · simp [b7,z1,h1,e1,e2,h2,h2',h3]
         refine f6 rfl rfl (.inl rfl) (Z8 wo t[i] hw) ?_
         by_cases h4:t[i]∈wo
         · simp [num,b7,V0,h4]
           exact a2x (by simp [h4])
         · simp [num,b7,V0,h4]
           refine LoopNext.mk (i+1) ⟨by omega,by rw [hstep];simp [h4];omega⟩ (by omega) (Le.mk _ _ ?_ ?_)
           · simp [F7];exact wrap_i64 (by omega) (by omega)
           · simp
     · have h2':t[i].toNat < 33:=by omega
       simp [b7,z1,h1,e1,e2,h2,h2']
       exact a2x (by simp;omega)
   · have e:i=t.length:=by omega
     subst e
     simp [b7]
     simpa using hall.symm
theorem b7x (t:Tx) (ht:t.length < 1099511627776):z6 Tryz.prog 268 [.val (tx t)] (.ret (.val (.bool (V9 t))) []) []:=by
 refine K4 mixed ok268 rfl (fun _=>rfl) ?_
 unfold ir268
 rw [d9]
 simp [w8,J8,P1,b9,q8,tx,b7]
 refine f6 rfl rfl (.inl rfl) (a6j .i64 t.length 1 12) ?_
 by_cases hlen:1≤t.length∧t.length≤12
 rotate_left
 · rw [show decide ((1:Int)≤t.length∧(t.length:Int)≤12)=false from decide_eq_false (by omega)]
   simp
   simp [V9,hlen]
 rw [show decide ((1:Int)≤t.length∧(t.length:Int)≤12)=true from decide_eq_true (by omega)]
 simp
 refine S1 (X:=Nat) (fun i=>⟨S7 [(0,.val (.str (bs t))),(3,.val (.int .i64 i))],S0 []⟩) (fun i=>i≤t.length∧a2r (t.take i)=true) (fun i=>t.length - i) 0 (Le.mk _ _ ?_ ?_) ?_ ?_
 · simp [upd]
 · simp
 · simp [a2r]
 · rintro i ⟨hi,hall⟩
   simp [b7,z1]
   refine O5 (fun h1=>?_) (fun h1=>?_)
   · have hstep:=a9j t i h1
     rw [hall,Bool.true_and] at hstep
     have a2x:=a7q t i h1
     have hls:V9 t=a2r t:=by simp [V9,hlen]
     have e1:((97:Int)≤(t[i].toNat:Int))↔97≤t[i].toNat:=by omega
     have e2:((t[i].toNat:Int)≤122)↔t[i].toNat≤122:=by omega
     have hgood:(if i=0 then V7 t[i] else W3 t[i])=true→∀ st':St,st'.env 0=.val (.str (bs t))→st'.env 3=.val (.int .i64 (IntKind.i64.wrap ((i:Int)+1))) →
      ∃ x',(x'≤t.length∧a2r (t.take x')=true)∧t.length - x' < t.length - i∧Le st' ⟨S7 [(0,.val (.str (bs t))),(3,.val (.int .i64 (x':Int)))],S0 []⟩:=fun hg st' q1 q2=>by
      refine ⟨i+1,⟨by omega,by rw [hstep,hg]⟩,by omega,Le.mk _ _ ?_ ?_⟩
      · simp [q1,q2];exact wrap_i64 (by omega) (by omega)
      · simp
     by_cases hs:97≤t[i].toNat∧t[i].toNat≤122
     · simp [b7,z1,h1,e1,e2,hs.1,hs.2]
       refine hgood ?_ _ ?_ ?_
       · simp [V7,W3,hs]
       · simp
       · simp
     · by_cases h2:97≤t[i].toNat
       · have h3:¬ t[i].toNat≤122:=fun h=>hs ⟨h2,h⟩
         have hlow:V7 t[i]=false:=by simp [V7];omega
         by_cases h0:i=0
         · simp [b7,z1,h1,e1,e2,h2,h3,(eq_true h0:(i=0)=True)]
           exact hls.trans (a2x (by rw [if_pos h0];exact hlow))
         · simp [b7,z1,h1,e1,e2,h2,h3,h0]
           refine f6 rfl rfl (.inl rfl) (a1g t[i]) ?_
           cases hd:P8 t[i] with
           | true=>
            simp [h0]
            refine hgood ?_ _ ?_ ?_
            · simp [h0,W3,hd]
            · simp
            · simp
           | false=>
            have e3:((t[i].toNat:Int)=45)↔t[i].toNat=45:=by omega
            have e4:((t[i].toNat:Int)=43)↔t[i].toNat=43:=by omega
            have e5:((t[i].toNat:Int)=46)↔t[i].toNat=46:=by omega
            by_cases h4:t[i].toNat=45
            · simp [b7,z1,h1,h0,e3,e4,e5,h4]
              refine hgood ?_ _ ?_ ?_
              · simp [h0,W3,h4]
              · simp
              · simp
            · by_cases h5:t[i].toNat=43
              · simp [b7,z1,h1,h0,e3,e4,e5,h4,h5]
                refine hgood ?_ _ ?_ ?_
                · simp [h0,W3,h5]
                · simp
                · simp
              · by_cases h6:t[i].toNat=46
                · simp [b7,z1,h1,h0,e3,e4,e5,h4,h5,h6]
                  refine hgood ?_ _ ?_ ?_
                  · simp [h0,W3,h6]
                  · simp
                  · simp
                · simp [b7,z1,h1,h0,e3,e4,e5,h4,h5,h6]
                  exact hls.trans (a2x (by rw [if_neg h0];simp [W3,hlow,hd,h4,h5,h6]))
       · skip
         have hlow:V7 t[i]=false:=by simp [V7];omega
         by_cases h0:i=0
         · simp [b7,z1,h1,e1,e2,h2,(eq_true h0:(i=0)=True)]
           exact hls.trans (a2x (by rw [if_pos h0];exact hlow))
         · simp [b7,z1,h1,e1,e2,h2,h0]
           refine f6 rfl rfl (.inl rfl) (a1g t[i]) ?_
           cases hd:P8 t[i] with
           | true=>
            simp [h0]
            refine hgood ?_ _ ?_ ?_
            · simp [h0,W3,hd]
            · simp
            · simp
           | false=>
            have e3:((t[i].toNat:Int)=45)↔t[i].toNat=45:=by omega
            have e4:((t[i].toNat:Int)=43)↔t[i].toNat=43:=by omega
            have e5:((t[i].toNat:Int)=46)↔t[i].toNat=46:=by omega
            by_cases h4:t[i].toNat=45
            · simp [b7,z1,h1,h0,e3,e4,e5,h4]
              refine hgood ?_ _ ?_ ?_
              · simp [h0,W3,h4]
              · simp
              · simp
            · by_cases h5:t[i].toNat=43
              · simp [b7,z1,h1,h0,e3,e4,e5,h4,h5]
                refine hgood ?_ _ ?_ ?_
                · simp [h0,W3,h5]
                · simp
                · simp
              · by_cases h6:t[i].toNat=46
                · simp [b7,z1,h1,h0,e3,e4,e5,h4,h5,h6]
                  refine hgood ?_ _ ?_ ?_
                  · simp [h0,W3,h6]
                  · simp
                  · simp
                · simp [b7,z1,h1,h0,e3,e4,e5,h4,h5,h6]
                  exact hls.trans (a2x (by rw [if_neg h0];simp [W3,hlow,hd,h4,h5,h6]))
   · have e:i=t.length:=by omega
     subst e
     simp [b7]
     simp [V9,hlen]
     simpa using hall.symm
theorem b1r (last:Bool) (t:Tx) (i:Nat) (h:i < t.length):V4 last (t.drop i)=if !(V7 t[i] || P8 t[i]) && (last || !decide (t[i].toNat=45∨t[i].toNat=46)) then false else V4 (!(V7 t[i] || P8 t[i])) (t.drop (i+1)):=by
 rw [List.drop_eq_getElem_cons h];rfl
theorem c2x (t:Tx) (ht:t.length < 1099511627776):z6 Tryz.prog 270 [.val (tx t)] (.ret (.val (.bool (a00 t))) []) []:=by
 refine K4 mixed ok270 rfl (fun _=>rfl) ?_
 unfold ir270
 rw [d9]
 simp [w8,J8,P1,b9,q8,tx]
 refine S1 (X:=Nat×Bool) (fun x=>⟨S7 [(0,.val (.str (bs t))),(3,.val (.bool x.2)),(4,.val (.int .i64 x.1))],S0 []⟩) (fun x=>x.1≤t.length∧a00 t=V4 x.2 (t.drop x.1)) (fun x=>t.length - x.1) (0,true) (Le.mk _ _ ?_ ?_) ?_ ?_
 · simp [upd]
 · simp
 · simp [a00]
 · rintro ⟨i,last⟩ ⟨hi,hinv⟩
   simp only at hi hinv
   simp [b7,z1]
   refine O5 (fun h1=>?_) (fun h1=>?_)
   · rw [b1r last t i h1] at hinv
     have e1:((97:Int)≤(t[i].toNat:Int))↔97≤t[i].toNat:=by omega
     have e2:((t[i].toNat:Int)≤122)↔t[i].toNat≤122:=by omega
     have e3:((t[i].toNat:Int)=45)↔t[i].toNat=45:=by omega
     have e5:((t[i].toNat:Int)=46)↔t[i].toNat=46:=by omega
     have hgood:∀ (l:Bool),a00 t=V4 l (t.drop (i+1))→∀ st':St,st'.env 0=.val (.str (bs t))→st'.env 3=.val (.bool l)→st'.env 4=.val (.int .i64 (IntKind.i64.wrap ((i:Int)+1))) →
      ∃ x':Nat×Bool,(x'.1≤t.length∧a00 t=V4 x'.2 (t.drop x'.1))∧t.length - x'.1 < t.length - i∧Le st' ⟨S7 [(0,.val (.str (bs t))),(3,.val (.bool x'.2)),(4,.val (.int .i64 (x'.1:Int)))],S0 []⟩:=fun l hl st' q1 q2 q3=>by
      refine ⟨(i+1,l),⟨by simp only;omega,hl⟩,by simp only;omega,Le.mk _ _ ?_ ?_⟩
      · simp [q1,q2,q3];exact wrap_i64 (by omega) (by omega)
      · simp
     by_cases hs:97≤t[i].toNat∧t[i].toNat≤122
     · have hlow:V7 t[i]=true:=by simp [V7,hs]
       simp [b7,z1,h1,e1,e2,hs.1,hs.2]
       refine hgood false (by rw [hinv];simp [hlow]) _ ?_ ?_ ?_<;>simp
     · have hlow:V7 t[i]=false:=by simp [V7];omega
       by_cases h2:97≤t[i].toNat
       · have h3:¬ t[i].toNat≤122:=fun h=>hs ⟨h2,h⟩
         simp [b7,z1,h1,e1,e2,h2,h3]
         refine f6 rfl rfl (.inl rfl) (a1g t[i]) ?_
         cases hd:P8 t[i] with
         | true=>
          simp
          refine hgood false (by rw [hinv];simp [hlow,hd]) _ ?_ ?_ ?_<;>simp
         | false=>
          cases last with
          | true=>
           simp
           rw [hinv];simp [hlow,hd]
          | false=>
           by_cases h4:t[i].toNat=45
           · simp [b7,z1,h1,e3,e5,h4]
             refine hgood true (by rw [hinv];simp [hlow,hd,h4]) _ ?_ ?_ ?_<;>simp
           · by_cases h6:t[i].toNat=46
             · simp [b7,z1,h1,e3,e5,h4,h6]
               refine hgood true (by rw [hinv];simp [hlow,hd,h6]) _ ?_ ?_ ?_<;>simp
             · simp [b7,z1,h1,e3,e5,h4,h6]
               rw [hinv];simp [hlow,hd,h4,h6]
       · skip
         simp [b7,z1,h1,e1,e2,h2]
         refine f6 rfl rfl (.inl rfl) (a1g t[i]) ?_
         cases hd:P8 t[i] with
         | true=>
          simp
          refine hgood false (by rw [hinv];simp [hlow,hd]) _ ?_ ?_ ?_<;>simp
         | false=>
          cases last with
          | true=>
           simp
           rw [hinv];simp [hlow,hd]
          | false=>
           by_cases h4:t[i].toNat=45
           · simp [b7,z1,h1,e3,e5,h4]
             refine hgood true (by rw [hinv];simp [hlow,hd,h4]) _ ?_ ?_ ?_<;>simp
           · by_cases h6:t[i].toNat=46
             · simp [b7,z1,h1,e3,e5,h4,h6]
               refine hgood true (by rw [hinv];simp [hlow,hd,h6]) _ ?_ ?_ ?_<;>simp
             · simp [b7,z1,h1,e3,e5,h4,h6]
               rw [hinv];simp [hlow,hd,h4,h6]
   · have e:i=t.length:=by omega
     subst e
     simp [b7]
     rw [hinv];simp [V4]
end Go.Proofs
end
section
namespace Go.Proofs
open Go.PW Go.KP
attribute [local simp] RV.cells RV.one PV.cells PV.solid PV.one N3 b8 O9 P0 RV.ofCells elems PV.killL
variable [GF]
theorem c5l (m:Nat):X0 [RV.int .u8 (48+(m:Int))]=bs [UInt8.ofNat (48+m)]:=by
 have:(48+(m:Int)).toNat=48+m:=by omega
 simp only [X0,bs,List.map,RV.byte,this]
theorem b0e (n:Nat):n≤9223372036854775807→z6 Tryz.prog 223 [.val (num n)] (.ret (.val (tx (a1p n))) []) []:=by
 induction n using Nat.strongRecOn with
 | ind n ih=>
  intro hn
  refine K4 mixed ok223 rfl (fun _=>rfl) ?_
  unfold ir223
  rw [d9]
  have g1:¬ ((n:Int)=-9223372036854775808):=by omega
  have g2:¬ ((n:Int) < 0):=by omega
  by_cases h:n < 10
  · have g3:(n:Int) < 10:=by omega
    have g4:IntKind.i64.wrap (48+(n:Int))=48+(n:Int):=wrap_i64 (by omega) (by omega)
    have g5:IntKind.u8.wrap (48+(n:Int))=48+(n:Int):=a19 (by omega) (by omega)
    simp [w8,J8,P1,b9,q8,num,g1,g2,g3,g4,g5,RV.isU8]
    rw [a0v h]
    rw [c5l];rfl
  · have g3:¬ ((n:Int) < 10):=by omega
    have g6:(n:Int).tdiv 10=((n / 10:Nat):Int):=by rw [Int.tdiv_eq_ediv_of_nonneg (by omega)];omega
    have g7:(n:Int).tmod 10=((n % 10:Nat):Int):=by rw [Int.tmod_eq_emod_of_nonneg (by omega)];omega
    have hih:=ih (n / 10) (by omega) (by omega)
    rw [a22 h]
    have hl:=c4b (n / 10)
    have ha:n / 10≤922337203685477580:=by omega
    generalize n / 10=a at *
    have hb:n % 10 < 10:=Nat.mod_lt _ (by omega)
    generalize n % 10=b at *
    have g8:IntKind.i64.wrap (a:Int)=(a:Int):=wrap_i64 (by omega) (by omega)
    have g4:IntKind.i64.wrap (48+(b:Int))=48+(b:Int):=wrap_i64 (by omega) (by omega)
    have g5:IntKind.u8.wrap (48+(b:Int))=48+(b:Int):=a19 (by omega) (by omega)
    simp [w8,J8,P1,b9,q8,num,g1,g2,g3,g6,g7,g8,g4,g5,RV.isU8]
    refine Q6 rfl rfl (.inl rfl) hih ?_
    simp [w8,J8,P1,b9,q8,num,g1,g2,g3,g6,g7,g8,g4,g5,RV.isU8,tx]
    rw [c5l]
    simp [b7,P2]
    omega
def a5i:Option Int→PV
 | some n=>.tup [.val (num n),.val (.bool true)]
 | none=>.tup [.val (num 0),.val (.bool false)]
theorem b4r (u:Tx) (neg:Bool) (st:St) (h0:st.env 0=.val (tx u)) (h4:st.env 4=.val (num (if neg then -1 else 1))) (h5:st.env 5=.val (num 0)) (hu:u.length≤18) :
 EC Tryz.prog ir240_from5 st (K:=⟨a1l [.t 2,.t 3] (a5i (if u.all P8 then some (if neg then - (V3 u:Int) else (V3 u:Int)) else none))⟩):=by
 unfold ir240_from5
 simp only [x4,F1,x6,E9,x7,p9,x5,F0,j5,A1,F8,F9,d8,o0,o9,i8,x8,p8,j4,E8,x1,p7,p6,C9,D0,T4,T5,Option.getD_some,Option.getD_none,B6,q9,l8,C6,l7,l1,C8,l2,C7,C5,C4,G5,u6,l5,C2,t8,l4,C1,B4,C3,u0,B9,k8,t7,C0,G7,G6,B5,B7,l3,B8,u7,l6,A4,j7,B3,B2,B1,G0,s9,j9,A9,s0,j8,A8,A2,B0,s8,A6,j6,r9,A7,G4,G3,A3,r8,k7,A5,t6,k6,I3,I2,J4,I4,I8,I6,I5,J3,I7,I9,J0,J1,J2,y7,y6,x9,K5,K6,F7,F2,r5,D4,v6,J6,q7,O0,K9,J7,M3,M5,M4,O1,O2,H5,H7,H6,H8,H9,L9,v8,L8,D5,D6,D7,w5,T6,E5,w9,N8,N9,G8,K7,K8,Option.map_some,Option.map_none,D8,w6,u9,l9,D2,D3,H0,G9,N0,M9,I1,E6,E7,I0,M6,M7,H1,n7,H2,n0,L4,E4,E3,j3,M2,M8,H4,L5,L7,L6,v7,z7,A0,z8,f7,M1,O4,O3,L2,H3,Q1,L3,n8,E1,E2,w7,D9,i7,r6,i6,r7,f8,J5,N1,N2,y8,y9,F4,F3,D1]
 refine S1 (X:=Nat) (fun i=>⟨S7 [(0,.val (tx u)),(4,.val (num (if neg then -1 else 1))),(5,.val (num (V3 (u.take i)))),(6,.val (num i))],S0 []⟩) (fun i=>i≤u.length∧(u.take i).all P8=true) (fun i=>u.length - i) 0 (Le.mk _ _ ?_ ?_) ?_ ?_
 · simp [upd,h0,h4,h5,num,V3]
 · simp
 · simp
 · rintro i ⟨hi,hall⟩
   have hlv:V3 (u.take i) < 1000000000000000000:=by
    have h1:=b0j _ hall
    have h2:(u.take i).length≤18:=by simp;omega
    exact Nat.lt_of_lt_of_le h1 (Nat.le_trans (Nat.pow_le_pow_right (by omega) h2) (by decide))
   simp [tx,num,b7,z1]
   refine O5 (fun h1=>?_) (fun h1=>?_)
   · have e1:((u[i].toNat:Int) < 48)↔u[i].toNat < 48:=by omega
     have e1':((48:Int)≤(u[i].toNat:Int))↔48≤u[i].toNat:=by omega
     have e2:((57:Int) < (u[i].toNat:Int))↔57 < u[i].toNat:=by omega
     by_cases h2:u[i].toNat < 48
     · have h2':¬ 48≤u[i].toNat:=by omega
       simp [tx,num,b7,z1,h1,e1,e1',e2,h2,h2']
       rw [if_neg (fun hA=>by have:=hA u[i] (List.getElem_mem h1);simp [P8] at this;omega)];rfl
     · have h2':48≤u[i].toNat:=by omega
       by_cases h3:57 < u[i].toNat
       · simp [tx,num,b7,z1,h1,e1,e1',e2,h2,h2',h3]
         rw [if_neg (fun hA=>by have:=hA u[i] (List.getElem_mem h1);simp [P8] at this;omega)];rfl
       · simp [tx,num,b7,z1,h1,e1,e1',e2,h2,h2',h3]
         have hlv2:V3 (u.take i) < 100000000000000000:=by
          have h1':=b0j _ hall
          have h2':(u.take i).length≤17:=by simp;omega
          exact Nat.lt_of_lt_of_le h1' (Nat.le_trans (Nat.pow_le_pow_right (by omega) h2') (by decide))
         have hw:IntKind.i64.wrap (IntKind.i64.wrap (IntKind.i64.wrap ((V3 (u.take i):Int)*10)+IntKind.i64.wrap (u[i].toNat:Int)) - 48)=((V3 (u.take (i+1)):Nat):Int):=by
          rw [b3j u i 0 h1,a6c,a0w _ _ _ h1]
          rw [wrap_i64 (x:=(V3 (u.take i):Int)*10) (by omega) (by omega),wrap_i64 (x:=(u[i].toNat:Int)) (by omega) (by omega),wrap_i64 (x:=(V3 (u.take i):Int)*10+(u[i].toNat:Int)) (by omega) (by omega),wrap_i64 (by omega) (by omega)]
          omega
         refine LoopNext.mk (i+1) ⟨by omega,?_⟩ (by omega) (Le.mk _ _ ?_ ?_)
         · rw [a06 _ _ _ h1,hall];simp [P8];omega
         · simp [hw,tx,num];exact wrap_i64 (by omega) (by omega)
         · simp
   · have e:i=u.length:=by omega
     subst e
     rw [List.take_length] at hall hlv
     simp [tx,num,b7]
     have hA:∀ x,x∈u→P8 x=true:=by simpa using hall
     have w1:IntKind.i64.wrap (-(V3 u:Int))=-(V3 u:Int):=wrap_i64 (by omega) (by omega)
     have w2:IntKind.i64.wrap (V3 u:Int)=(V3 u:Int):=wrap_i64 (by omega) (by omega)
     cases neg with
     | true=>simp [a5i,num,eq_true hA,w1]
     | false=>simp [a5i,num,eq_true hA,w2]
theorem a4v (u:Tx) (neg:Bool) (st:St) (h0:st.env 0=.val (tx u)) (h4:st.env 4=.val (num (if neg then -1 else 1))) (hu:u.length < 1099511627776) :
 EC Tryz.prog ir240_from3 st (K:=⟨a1l [.t 2,.t 3] (a5i (a0z neg u))⟩):=by
 unfold ir240_from3
 by_cases a1:u.length=0
 · have:u=[]:=List.eq_nil_of_length_eq_zero a1
   subst this
   simp [h0,tx,b7]
   rw [show a0z neg []=none by simp [a0z,a13]];rfl
 · have a1':¬ ((u.length:Int)=0):=by omega
   by_cases a2:18 < u.length
   · have a2':(18:Int) < u.length:=by omega
     have a2'':¬ (u.length:Int)≤18:=by omega
     simp [h0,tx,b7,a1,a1',a2',a2'']
     rw [show a0z neg u=none by simp [a0z,a13,a2]];rfl
   · have hpos:0 < u.length:=by omega
     have a2':¬ (18:Int) < u.length:=by omega
     have a2'':(u.length:Int)≤18:=by omega
     have e0:u[0]?.getD 0=u.getD 0 0:=by simp
     have e1:((u[0].toNat:Int)=48)↔u[0].toNat=48:=by omega
     have e2:((1:Int) < (u.length:Int))↔1 < u.length:=by omega
     have hg:u[0]?.getD 0=u[0]:=by simp [List.getElem?_eq_getElem hpos]
     have hgo:a13 neg u=false→∀ st':St,st'.env 0=.val (tx u)→st'.env 4=.val (num (if neg then -1 else 1))→st'.env 5=.val (num 0)→EC Tryz.prog ir240_from5 st' (K:=⟨a1l [.t 2,.t 3] (a5i (a0z neg u))⟩):=fun hb st' q1 q2 q3=>by
      rw [show a0z neg u=(if u.all P8 then some (if neg then - (V3 u:Int) else (V3 u:Int)) else none) by unfold a0z;rw [hb];rfl]
      exact b4r u neg st' q1 q2 q3 (by omega)
     by_cases a3:u[0].toNat=48
     · by_cases a4:1 < u.length
       · simp [h0,tx,b7,a1,a1',a2',a2'',z1,hpos,e1,e2,a3,a4]
         rw [show a0z neg u=none by simp [a0z,a13,hg,a3,a4]];rfl
       · cases neg with
         | true=>
          simp [h0,h4,num,tx,b7,a1,a1',a2',a2'',z1,hpos,e1,e2,a3,a4]
          rw [show a0z true u=none by simp [a0z,a13,hg,a3]];rfl
         | false=>
          simp [h0,h4,num,tx,b7,a1,a1',a2',a2'',z1,hpos,e1,e2,a3,a4]
          refine hgo ?_ _ ?_ ?_ ?_
          · simp [a13,hg,a3,a4,a1,a2]
          · simp [h0,tx]
          · simp [h4,num]
          · simp [num]
     · simp [h0,tx,b7,a1,a1',a2',a2'',z1,hpos,e1,e2,a3]
       refine hgo ?_ _ ?_ ?_ ?_
       · simp [a13,hg,a3,a1,a2]
       · simp [h0,tx]
       · simp [h4,num]
       · simp [num]
theorem a91 (t:Tx) (ht:t.length < 1099511627776):z6 Tryz.prog 240 [.val (tx t)] (.ret (a5i (U4 t)) []) []:=by
 refine K4 mixed ok240 rfl (fun ι=>by cases U4 t<;>rfl) ?_
 unfold ir240
 rw [d9]
 cases t with
 | nil=>
  simp [w8,J8,P1,b9,q8,tx,b7]
  rw [show U4 []=a0z false [] by simp [U4,a0z,a13]]
  refine a4v [] false _ ?_ ?_ (by simp)<;>simp [tx,num]
 | cons c r=>
  have hr:r.length < 1099511627776:=by simp at ht;omega
  have e0:(0:Int) < ((r.length:Int)+1):=by omega
  by_cases hc:c=45
  · have e1:((c.toNat:Int)=45):=by rw [hc];rfl
    simp [w8,J8,P1,b9,q8,tx,b7,z1,e0,e1,P9]
    rw [show U4 (c :: r)=a0z true r by simp [U4,hc]]
    refine a4v r true _ ?_ ?_ hr<;>simp [tx,num]
  · have e1:¬ ((c.toNat:Int)=45):=fun h=>hc (UInt8.toNat_inj.1 (by simp;omega))
    simp [w8,J8,P1,b9,q8,tx,b7,z1,e0,e1]
    rw [show U4 (c :: r)=a0z false (c :: r) by simp [U4,hc]]
    refine a4v (c :: r) false _ ?_ ?_ ht<;>simp [tx,num]
theorem c2w (u:LUrl) (hs:u.Small):z6 Tryz.prog 242 [.val (W5 u)] (.ret (.val (tx (c0t u))) []) []:=by
 refine K4 mixed ok242 rfl (fun _=>rfl) ?_
 unfold ir242
 rw [d9]
 obtain ⟨s1,s2,s3,s4,s5,s6,s7⟩:=hs
 have e1:(⟨#[58,47,47]⟩:ByteArray)=bs [58,47,47]:=rfl
 have e2:(⟨#[58]⟩:ByteArray)=bs [58]:=rfl
 simp [w8,J8,P1,b9,q8,W5,tx,num,b7,e1,e2,P2]
 refine ⟨by omega,by omega,O5 (fun h=>?_) (fun h=>?_)⟩
 · obtain ⟨p,hp⟩:=Int.eq_ofNat_of_zero_le (show 0≤u.port by omega)
   simp [W5,tx,num,b7,e1,e2,P2]
   refine f6 rfl rfl (.inl rfl) (by rw [hp];exact b0e p (by omega)) ?_
   have hl:=a3d 18 p (by omega)
   simp [W5,tx,num,b7,e1,e2,P2]
   refine ⟨by omega,by omega,?_⟩
   simp [c0t,a1b,hp,show 0 < p by omega]
 · simp [W5,tx,num,b7,e1,e2,P2]
   simp [c0t,a1b,h]
theorem b0z (u:LUrl) (hs:u.Small) (pre:Tx) (hp:pre.length < 4398046511104) (st:St) (h1:st.env 1=.ptr 1 0) (h3:st.env 3=.val (tx pre)) (hm:st.mem 1=.box [.val (tx u.scheme),.val (tx u.user),.val (tx u.host),.val (num u.port),.val (tx u.path),.val (tx u.query),.val (tx u.frag),.val (.bool u.hasQ),.val (.bool u.hasF)]) :
 EC Tryz.prog ir201_from4 st (K:=⟨a1l [.t 2] (.val (tx (pre++(u.host++a1b u.port++u.path)++(if u.hasQ then 63 :: u.query else [])++(if u.hasF then 35 :: u.frag else []))))⟩):=by
 unfold ir201_from4
 obtain ⟨s1,s2,s3,s4,s5,s6,s7⟩:=hs
 have e3:(⟨#[]⟩:ByteArray)=bs []:=rfl
 have e5:(⟨#[63]⟩:ByteArray)=bs [63]:=rfl
 have e6:(⟨#[35]⟩:ByteArray)=bs [35]:=rfl
 simp [h1,h3,hm,tx,num,b7,e3,e5,e6,P2]
 refine Q6 rfl rfl (.inl rfl) (c2w ⟨[],[],u.host,u.port,[],[],[],false,false⟩ ⟨by simp,by simp,s3,by simp,by simp,by simp,s7⟩) ?_
 simp [h1,h3,hm,tx,num,b7,e3,e5,e6,P2,P9,c0t]
 have hpl:=b8j u.port s7
 have htk:List.take (u.host.length+(a1b u.port).length) (u.host++a1b u.port)=u.host++a1b u.port:=List.take_of_length_le (by simp)
 refine ⟨by omega,by omega,?_⟩
 cases hq:u.hasQ with
 | true=>
  refine O5 (fun _=>?_) (fun h=>(h (by simp)).elim)
  simp [h1,h3,hm,tx,num,b7,e3,e5,e6,P2,htk]
  refine ⟨by omega,by omega,?_⟩
  cases hf:u.hasF with
  | true=>
   refine O5 (fun _=>?_) (fun h=>(h (by simp)).elim)
   simp [h1,h3,hm,tx,num,b7,e3,e5,e6,P2,htk]
   omega
  | false=>
   refine O5 (fun h=>by simp at h) (fun _=>?_)
   simp [h1,h3,hm,tx,num,b7,e3,e5,e6,P2,htk]
 | false=>
  refine O5 (fun h=>by simp at h) (fun _=>?_)
  simp [h1,h3,hm,tx,num,b7,e3,e5,e6,P2,htk]
  cases hf:u.hasF with
  | true=>
   refine O5 (fun _=>?_) (fun h=>(h (by simp)).elim)
   simp [h1,h3,hm,tx,num,b7,e3,e5,e6,P2,htk]
   omega
  | false=>
   refine O5 (fun h=>by simp at h) (fun _=>?_)
   simp [h1,h3,hm,tx,num,b7,e3,e5,e6,P2,htk]
theorem b4a (u:LUrl) (hs:u.Small):z6 Tryz.prog 201 [.val (W5 u)] (.ret (.val (tx (X6 u))) []) []:=by
 refine K4 mixed ok201 rfl (fun _=>rfl) ?_
 unfold ir201
 rw [d9]
 have hs':=hs
 obtain ⟨s1,s2,s3,s4,s5,s6,s7⟩:=hs
 have e1:(⟨#[58,47,47]⟩:ByteArray)=bs [58,47,47]:=rfl
 have e2:(⟨#[58]⟩:ByteArray)=bs [58]:=rfl
 have e3:(⟨#[]⟩:ByteArray)=bs []:=rfl
 have e4:(⟨#[64]⟩:ByteArray)=bs [64]:=rfl
 have e5:(⟨#[63]⟩:ByteArray)=bs [63]:=rfl
 have e6:(⟨#[35]⟩:ByteArray)=bs [35]:=rfl
 simp [w8,J8,P1,b9,q8,W5,tx,num,b7,e1,e2,P2]
 refine f6 rfl rfl (.inl rfl) (a8f u.scheme) ?_
 by_cases hw:a0b u.scheme=true
 · simp [W5,tx,num,b7,e1,e2,e3,e4,P2,R3,hw]
   refine ⟨by omega,O5 (fun hu=>?_) (fun hu=>?_)⟩
   · simp [W5,tx,num,b7,e1,e2,e3,e4,P2,R3]
     refine ⟨by omega,by omega,?_⟩
     have e:X6 u=(u.scheme++[58,47,47]++(u.user++[64]))++(u.host++a1b u.port++u.path)++(if u.hasQ then 63 :: u.query else [])++(if u.hasF then 35 :: u.frag else []):=by simp [X6,hw,hu]
     have:=b0z u hs' (u.scheme++[58,47,47]++(u.user++[64])) (by simp;omega)
     rw [← e] at this
     refine this _ ?_ ?_ ?_<;>simp [tx,num]
   · have hu:u.user=[]:=Classical.byContradiction hu
     have e:X6 u=(u.scheme++[58,47,47])++(u.host++a1b u.port++u.path)++(if u.hasQ then 63 :: u.query else [])++(if u.hasF then 35 :: u.frag else []):=by simp [X6,hw,hu]
     have:=b0z u hs' (u.scheme++[58,47,47]) (by simp;omega)
     rw [← e] at this
     simp [W5,tx,num,b7,e1,e2,e3,e4,P2,R3]
     refine this _ ?_ ?_ ?_<;>simp [tx,num]
 · simp [W5,tx,num,b7,e1,e2,P2,hw]
   refine ⟨by omega,by omega,?_⟩
   simp [X6,hw]
end Go.Proofs
end
section
namespace Go.Proofs
open Go.PW Go.KP
attribute [local simp] RV.cells RV.one PV.cells PV.solid PV.one N3 b8 O9 P0 RV.ofCells elems PV.killL
variable [GF]
theorem b5t (u:LUrl) (hs:u.Small) (hw:a0b u.scheme=true) (st:St) (h1:st.env 1=.ptr 1 0) (hm:st.mem 1=.box [.val (tx u.scheme),.val (tx u.user),.val (tx u.host),.val (num u.port),.val (tx u.path),.val (tx u.query),.val (tx u.frag),.val (.bool u.hasQ),.val (.bool u.hasF)]) :
 EC Tryz.prog ir239_from3 st (K:=⟨a1l [.t 2] (.val (.bool (X3 u.user [47,63,35,64] && a00 u.host && decide (0≤u.port∧u.port≤65535) && decide (u.port≠Y5 u.scheme) && decide (0 < u.path.length) && decide ((u.path.getD 0 0).toNat=47))))⟩):=by
 unfold ir239_from3
 obtain ⟨s1,s2,s3,s4,s5,s6,s7⟩:=hs
 have e3:(⟨#[47,63,35,64]⟩:ByteArray)=bs [47,63,35,64]:=rfl
 simp [h1,hm,tx,num,b7,e3]
 refine Q6 rfl rfl (.inl rfl) (a6i u.user [47,63,35,64] s2 (by simp)) ?_
 cases a1:X3 u.user [47,63,35,64] with
 | false=>simp [h1,hm,tx,num,b7]
 | true=>
  simp [h1,hm,tx,num,b7]
  refine Q6 rfl rfl (.inl rfl) (c2x u.host s3) ?_
  cases a2:a00 u.host with
  | false=>simp [h1,hm,tx,num,b7]
  | true=>
   simp [h1,hm,tx,num,b7]
   refine Q6 rfl rfl (.inl rfl) (a6j .i64 u.port 0 65535) ?_
   cases a3:decide (0≤u.port∧u.port≤65535) with
   | false=>simp [h1,hm,tx,num,b7]
   | true=>
    simp [h1,hm,tx,num,b7]
    refine Q6 rfl rfl (.inl rfl) (b2n u.scheme) ?_
    by_cases a4:u.port=Y5 u.scheme
    · simp [h1,hm,tx,num,b7,a4]
    · simp [h1,hm,tx,num,b7,a4]
      by_cases a5:0 < u.path.length
      · have a5':u.path≠[]:=fun e=>by simp [e] at a5
        have e7:((u.path[0].toNat:Int)=47)↔u.path[0].toNat=47:=by omega
        simp [h1,hm,tx,num,b7,z1,a4,a5,a5',e7,List.getElem?_eq_getElem a5]
        by_cases h47:u.path[0].toNat=47
        · simp [h47]
        · have h47':((u.path[0].toNat:Int) == 47)=false:=by simp;omega
          rw [h47'];simp [h47]
      · simp [h1,hm,tx,num,b7,a4,a5]
def a4o (u:LUrl):Bool:=
 if a0b u.scheme then X3 u.user [47,63,35,64] && a00 u.host && decide (0≤u.port∧u.port≤65535) && decide (u.port≠Y5 u.scheme) && decide (0 < u.path.length) && decide ((u.path.getD 0 0).toNat=47)
 else decide (u.user=[]) && decide (u.host=[]) && decide (u.port=0) && !u.hasQ && !u.hasF
theorem b5u (u:LUrl) (hs:u.Small) (st:St) (h1:st.env 1=.ptr 1 0) (hm:st.mem 1=.box [.val (tx u.scheme),.val (tx u.user),.val (tx u.host),.val (num u.port),.val (tx u.path),.val (tx u.query),.val (tx u.frag),.val (.bool u.hasQ),.val (.bool u.hasF)]) :
 EC Tryz.prog ir239_from2 st (K:=⟨a1l [.t 2] (.val (.bool (a4o u)))⟩):=by
 unfold ir239_from2
 have e3:(⟨#[]⟩:ByteArray)=bs []:=rfl
 simp [h1,hm,tx,num,b7]
 refine f6 rfl rfl (.inl rfl) (a8f u.scheme) ?_
 cases hw:a0b u.scheme with
 | true=>
  simp [h1,hm,tx,num,b7]
  rw [show a4o u=_ by unfold a4o;rw [hw,if_pos rfl]]
  refine b5t u hs hw _ ?_ ?_<;>simp [h1,hm,tx,num]
 | false=>
  rw [show a4o u=_ by unfold a4o;rw [hw,if_neg (by simp)]]
  by_cases a1:u.user=[]
  · by_cases a2:u.host=[]
    · by_cases a3:u.port=0
      · cases a4:u.hasQ with
        | true=>simp [h1,hm,tx,num,b7,e3,R3,a1,a2,a3,a4]
        | false=>simp [h1,hm,tx,num,b7,e3,R3,a1,a2,a3,a4]
      · simp [h1,hm,tx,num,b7,e3,R3,a1,a2,a3]
    · simp [h1,hm,tx,num,b7,e3,R3,a1,a2]
  · simp [h1,hm,tx,num,b7,e3,R3,a1]
structure UO (st:St) (u:LUrl):Prop where
 e1:st.env 1=.ptr 1 0
 m1:st.mem 1=.box [.val (tx u.scheme),.val (tx u.user),.val (tx u.host),.val (num u.port),.val (tx u.path),.val (tx u.query),.val (tx u.frag),.val (.bool u.hasQ),.val (.bool u.hasF)]
section
variable {Ks:Kx (St→Prop)} {kx:Kx (RV→St→Prop)} {st:St} {u:LUrl} {b:Bool}
def c1c (u:LUrl):Bool:=decide (100 < (X6 u).length)
theorem okops43 (hs:u.Small) (h:UO st u) (hb:st.env 45=.val (.bool b)) (hK:∀ st',UO st' u→st'.env 50=.val (.bool (b || c1c u))→Ks.k st'):EO Tryz.prog ir239_ops1_43 st (Ks:=Ks) (kx:=kx):=by
 unfold ir239_ops1_43
 obtain ⟨e1,m1⟩:=h
 cases b with
 | true=>
  simp [hb]
  refine hK _ ⟨?_,?_⟩ ?_<;>simp [e1,m1]
 | false=>
  simp [hb,e1,m1]
  refine f6 rfl rfl (.inl rfl) (b4a u hs) ?_
  have e:((100:Int) < ((X6 u).length:Int))↔100 < (X6 u).length:=by omega
  simp [hb,e1,m1,tx,b7]
  refine hK _ ⟨?_,?_⟩ ?_<;>simp [e1,m1,c1c,e,tx,num]
def c1d (u:LUrl):Bool:=!X3 u.frag [] || c1c u
theorem okops37 (hs:u.Small) (h:UO st u) (hb:st.env 39=.val (.bool b)) (hK:∀ st',UO st' u→st'.env 50=.val (.bool (b || c1d u))→Ks.k st'):EO Tryz.prog ir239_ops1_37 st (Ks:=Ks) (kx:=kx):=by
 unfold ir239_ops1_37
 have e3:(⟨#[]⟩:ByteArray)=bs []:=rfl
 cases b with
 | true=>
  simp [hb]
  refine okops43 (b:=true) hs ⟨?_,?_⟩ ?_ (fun st' q1 q2=>hK st' q1 ?_)
  · simp [h.e1]
  · simp [h.m1]
  · simp
  · simpa using q2
 | false=>
  simp [hb,h.e1,h.m1,e3,tx]
  refine f6 rfl rfl (.inl rfl) (a6i u.frag [] hs.2.2.2.2.2.1 (by simp)) ?_
  simp [hb,e3,tx]
  refine okops43 (b:=!X3 u.frag []) hs ⟨?_,?_⟩ ?_ (fun st' q1 q2=>hK st' q1 ?_)
  · simp [h.e1]
  · simp [h.m1]
  · simp
  · simpa [c1d] using q2
def c1e (u:LUrl):Bool:=!X3 u.query [35] || c1d u
theorem okops31 (hs:u.Small) (h:UO st u) (hb:st.env 33=.val (.bool b)) (hK:∀ st',UO st' u→st'.env 50=.val (.bool (b || c1e u))→Ks.k st'):EO Tryz.prog ir239_ops1_31 st (Ks:=Ks) (kx:=kx):=by
 unfold ir239_ops1_31
 have e3:(⟨#[35]⟩:ByteArray)=bs [35]:=rfl
 cases b with
 | true=>
  simp [hb]
  refine okops37 (b:=true) hs ⟨?_,?_⟩ ?_ (fun st' q1 q2=>hK st' q1 ?_)
  · simp [h.e1]
  · simp [h.m1]
  · simp
  · simpa using q2
 | false=>
  simp [hb,h.e1,h.m1,e3,tx]
  refine f6 rfl rfl (.inl rfl) (a6i u.query [35] hs.2.2.2.2.1 (by simp)) ?_
  simp [hb,e3,tx]
  refine okops37 (b:=!X3 u.query [35]) hs ⟨?_,?_⟩ ?_ (fun st' q1 q2=>hK st' q1 ?_)
  · simp [h.e1]
  · simp [h.m1]
  · simp
  · simpa [c1e] using q2
def c1f (u:LUrl):Bool:=!X3 u.path [63,35] || c1e u
theorem okops25 (hs:u.Small) (h:UO st u) (hb:st.env 27=.val (.bool b)) (hK:∀ st',UO st' u→st'.env 50=.val (.bool (b || c1f u))→Ks.k st'):EO Tryz.prog ir239_ops1_25 st (Ks:=Ks) (kx:=kx):=by
 unfold ir239_ops1_25
 have e3:(⟨#[63,35]⟩:ByteArray)=bs [63,35]:=rfl
 cases b with
 | true=>
  simp [hb]
  refine okops31 (b:=true) hs ⟨?_,?_⟩ ?_ (fun st' q1 q2=>hK st' q1 ?_)
  · simp [h.e1]
  · simp [h.m1]
  · simp
  · simpa using q2
 | false=>
  simp [hb,h.e1,h.m1,e3,tx]
  refine f6 rfl rfl (.inl rfl) (a6i u.path [63,35] hs.2.2.2.1 (by simp)) ?_
  simp [hb,e3,tx]
  refine okops31 (b:=!X3 u.path [63,35]) hs ⟨?_,?_⟩ ?_ (fun st' q1 q2=>hK st' q1 ?_)
  · simp [h.e1]
  · simp [h.m1]
  · simp
  · simpa [c1f] using q2
def b2s (u:LUrl):Bool:=(!u.hasF && !decide (u.frag=[])) || c1f u
theorem okops15 (hs:u.Small) (h:UO st u) (hb:st.env 17=.val (.bool b)) (hK:∀ st',UO st' u→st'.env 50=.val (.bool (b || b2s u))→Ks.k st'):EO Tryz.prog ir239_ops1_15 st (Ks:=Ks) (kx:=kx):=by
 unfold ir239_ops1_15
 have e3:(⟨#[]⟩:ByteArray)=bs []:=rfl
 cases b with
 | true=>
  simp [hb]
  refine okops25 (b:=true) hs ⟨?_,?_⟩ ?_ (fun st' q1 q2=>hK st' q1 ?_)
  · simp [h.e1]
  · simp [h.m1]
  · simp
  · simpa using q2
 | false=>
  cases hf:u.hasF with
  | true=>
   simp [hb,h.e1,h.m1,e3,tx,hf]
   refine okops25 (b:=false) hs ⟨?_,?_⟩ ?_ (fun st' q1 q2=>hK st' q1 ?_)
   · simp [h.e1]
   · simp [h.m1]
   · simp
   · simpa [b2s,hf] using q2
  | false=>
   simp [hb,h.e1,h.m1,e3,tx,hf,R3]
   refine okops25 (b:=!decide (u.frag=[])) hs ⟨?_,?_⟩ ?_ (fun st' q1 q2=>hK st' q1 ?_)
   · simp [h.e1]
   · simp [h.m1]
   · simp
   · simpa [b2s,hf] using q2
end
theorem c09 (u:LUrl) (hs:u.Small):z6 Tryz.prog 239 [.val (W5 u)] (.ret (.val (.bool (T3 u))) []) []:=by
 refine K4 mixed ok239 rfl (fun _=>rfl) ?_
 unfold ir239
 rw [d9]
 have hlu:T3 u=(V9 u.scheme && (u.hasQ || decide (u.query=[])) && (u.hasF || decide (u.frag=[])) && X3 u.path [63,35] && X3 u.query [35] && X3 u.frag [] && decide ((X6 u).length≤100) && a4o u):=rfl
 have hend:∀ st':St,UO st' u→∀ b,st'.env 50=.val (.bool (b || b2s u))→b=(!V9 u.scheme || (!u.hasQ && !decide (u.query=[]))) →
  CD (st'.env 50) (A:=⟨EC Tryz.prog (.seq (.reg [⟨some 2,.mov (.k (.val (.bool false))),none⟩]) .ret) st' (K:=⟨fun e st'=>ET e st' (Ks:=⟨fun st'=>EC Tryz.prog ir239_from2 st' (K:=⟨a1l [.t 2] (.val (.bool (T3 u)))⟩)⟩) (K:=⟨a1l [.t 2] (.val (.bool (T3 u)))⟩)⟩)⟩)
   (B:=⟨EC Tryz.prog .skip st' (K:=⟨fun e st'=>ET e st' (Ks:=⟨fun st'=>EC Tryz.prog ir239_from2 st' (K:=⟨a1l [.t 2] (.val (.bool (T3 u)))⟩)⟩) (K:=⟨a1l [.t 2] (.val (.bool (T3 u)))⟩)⟩)⟩):=by
  intro st' h b hb hbb
  have hlu2:T3 u=(!(b || b2s u) && a4o u):=by
   rw [hlu,hbb]
   unfold b2s c1f c1e c1d c1c
   have e:decide ((X6 u).length≤100)=!decide (100 < (X6 u).length):=by
    by_cases h:(X6 u).length≤100
    · have h':¬ 100 < (X6 u).length:=by omega
      simp [h,h']
    · have h':100 < (X6 u).length:=by omega
      simp [h,h']
   rw [e]
   cases V9 u.scheme<;>cases u.hasQ<;>cases u.hasF<;>cases decide (u.query=[])<;>cases decide (u.frag=[])<;>cases X3 u.path [63,35]<;>cases X3 u.query [35]<;>cases X3 u.frag []<;>cases decide (100 < (X6 u).length)<;>rfl
  rw [hb,hlu2]
  cases (b || b2s u) with
  | true=>simp
  | false=>
   simp only [x4,F1,x6,E9,x7,p9,x5,F0,j5,A1,F8,F9,d8,o0,o9,i8,x8,p8,j4,E8,x1,p7,p6,C9,D0,T4,T5,Option.getD_some,Option.getD_none,B6,q9,l8,C6,l7,l1,C8,l2,C7,C5,C4,G5,u6,l5,C2,t8,l4,C1,B4,C3,u0,B9,k8,t7,C0,G7,G6,B5,B7,l3,B8,u7,l6,A4,j7,B3,B2,B1,G0,s9,j9,A9,s0,j8,A8,A2,B0,s8,A6,j6,r9,A7,G4,G3,A3,r8,k7,A5,t6,k6,I3,I2,J4,I4,I8,I6,I5,J3,I7,I9,J0,J1,J2,y7,y6,x9,K5,K6,F7,F2,r5,D4,v6,J6,q7,O0,K9,J7,M3,M5,M4,O1,O2,H5,H7,H6,H8,H9,L9,v8,L8,D5,D6,D7,w5,T6,E5,w9,N8,N9,G8,K7,K8,Option.map_some,Option.map_none,D8,w6,u9,l9,D2,D3,H0,G9,N0,M9,I1,E6,E7,I0,M6,M7,H1,n7,H2,n0,L4,E4,E3,j3,M2,M8,H4,L5,L7,L6,v7,z7,A0,z8,f7,M1,O4,O3,L2,H3,Q1,L3,n8,E1,E2,w7,D9,i7,r6,i6,r7,f8,J5,N1,N2,y8,y9,F4,F3,D1]
   refine O5 (fun h=>by cases h) (fun _=>?_)
   simp only [x4,F1,x6,E9,x7,p9,x5,F0,j5,A1,F8,F9,d8,o0,o9,i8,x8,p8,j4,E8,x1,p7,p6,C9,D0,T4,T5,Option.getD_some,Option.getD_none,B6,q9,l8,C6,l7,l1,C8,l2,C7,C5,C4,G5,u6,l5,C2,t8,l4,C1,B4,C3,u0,B9,k8,t7,C0,G7,G6,B5,B7,l3,B8,u7,l6,A4,j7,B3,B2,B1,G0,s9,j9,A9,s0,j8,A8,A2,B0,s8,A6,j6,r9,A7,G4,G3,A3,r8,k7,A5,t6,k6,I3,I2,J4,I4,I8,I6,I5,J3,I7,I9,J0,J1,J2,y7,y6,x9,K5,K6,F7,F2,r5,D4,v6,J6,q7,O0,K9,J7,M3,M5,M4,O1,O2,H5,H7,H6,H8,H9,L9,v8,L8,D5,D6,D7,w5,T6,E5,w9,N8,N9,G8,K7,K8,Option.map_some,Option.map_none,D8,w6,u9,l9,D2,D3,H0,G9,N0,M9,I1,E6,E7,I0,M6,M7,H1,n7,H2,n0,L4,E4,E3,j3,M2,M8,H4,L5,L7,L6,v7,z7,A0,z8,f7,M1,O4,O3,L2,H3,Q1,L3,n8,E1,E2,w7,D9,i7,r6,i6,r7,f8,J5,N1,N2,y8,y9,F4,F3,D1]
   exact b5u u hs st' h.e1 h.m1
 simp [w8,J8,P1,b9,q8,W5,tx,num,b7]
 refine f6 rfl rfl (.inl rfl) (b7x u.scheme hs.1) ?_
 have e3:(⟨#[]⟩:ByteArray)=bs []:=rfl
 cases b1:V9 u.scheme with
 | false=>
  simp [tx,num,b7]
  refine okops15 (b:=true) hs ⟨?_,?_⟩ ?_ (fun st' q1 q2=>hend st' q1 true q2 (by simp [b1]))
  · simp
  · simp [tx,num]
  · simp
 | true=>
  cases hq:u.hasQ with
  | true=>
   simp [tx,num,b7,hq]
   refine okops15 (b:=false) hs ⟨?_,?_⟩ ?_ (fun st' q1 q2=>hend st' q1 false q2 (by simp [b1,hq]))
   · simp
   · simp [tx,num,hq]
   · simp
  | false=>
   simp [tx,num,b7,hq,e3,R3]
   refine okops15 (b:=!decide (u.query=[])) hs ⟨?_,?_⟩ ?_ (fun st' q1 q2=>hend st' q1 _ q2 (by simp [b1,hq]))
   · simp
   · simp [tx,num,hq]
   · simp
end Go.Proofs
end
section
namespace Go.Proofs
open Go.PW Go.KP
attribute [local simp] RV.cells RV.one PV.cells PV.solid PV.one N3 b8 O9 P0 RV.ofCells elems PV.killL
variable [GF]
abbrev prs (r:LUrl×Bool):Kx (PExit→St→Prop):=⟨a1l [.c 2 true 9,.t 3] (a4e r)⟩
structure UP (st:St) (u:LUrl) (r:Tx):Prop where
 e2:st.env 2=.ptr 2 0
 e5:st.env 5=.ptr 5 0
 e6:st.env 6=.val (tx r)
 m2:st.mem 2=.box (d7 LUrl.zero)
 m5:st.mem 5=.box (d7 u)
theorem a2n (t:Tx) (k:Nat):List.drop k (List.take t.length t)=t.drop k:=by rw [List.take_length]
theorem a4t (u:LUrl) (hs:u.Small) (r:Tx) (st:St) (h:UP st u r):EC Tryz.prog ir199_from18 st (K:=prs (u,T3 u)):=by
 unfold ir199_from18
 obtain ⟨e2,e5,e6,m2,m5⟩:=h
 simp [e2,e5,m2,m5,d7,b8,tx,num]
 refine Q6 rfl rfl (.inl rfl) (c09 u hs) ?_
 simp [e2,e5,m2,m5,d7,b8,tx,num]
 refine a5h (id:=2) ?_ ?_ ?_
 · simp [e2]
 · simp [e2,d7,tx,num]
 · simp
theorem Z3 (st:St) (e2:st.env 2=.ptr 2 0) (m2:st.mem 2=.box (d7 LUrl.zero)) (e3:st.env 3=.val (.bool false)):a1l [.c 2 true 9,.t 3] (a4e (LUrl.zero,false)) .ret st:=
 a5h e2 m2 e3
def T8 (u:LUrl) (r:Tx):LUrl×Bool:=match a03 u.scheme r with
 | none=>(LUrl.zero,false)
 | some p=>({ u with port:=p },T3 { u with port:=p })
theorem b80 {t:Tx} {n:Int} (h:U4 t=some n):n≤1000000000000000000:=by
 obtain ⟨_,_,u,h1,h2,h3,h4⟩:=a4x h
 have:=b0j u h2
 have h5:V3 u < 10 ^ 18:=Nat.lt_of_lt_of_le this (Nat.pow_le_pow_right (by omega) h3)
 have h6:(10:Nat) ^ 18=1000000000000000000:=by decide
 rcases h4 with h4 | h4<;>omega
theorem b4n (u:LUrl) (hs:u.Small) (hp:u.port=0) (r:Tx) (hr:r.length < 1099511627776) (st:St) (h:UP st u r) (e4:st.env 4=.val (num (P4 r 58))):EC Tryz.prog ir199_from17 st (K:=prs (T8 u r)):=by
 unfold ir199_from17
 obtain ⟨e2,e5,e6,m2,m5⟩:=h
 have hle:=Y6 r 58
 by_cases hc:58∈r
 · have hlt:=V0.2 hc
   have g1:((P4 r 58:Nat):Int) < (r.length:Int):=by omega
   have g2:IntKind.i64.wrap ((P4 r 58:Nat)+1:Int)=((P4 r 58+1:Nat):Int):=by rw [wrap_i64 (by omega) (by omega)];omega
   have g3:P4 r 58+1≤r.length:=by omega
   have g4:(0:Int)≤((P4 r 58:Nat):Int)+1:=by omega
   simp [e2,e4,e5,e6,m2,m5,tx,num,b7,g1,g2,g3,g4,P9,a2n,hlt]
   have hn:=a91 (O8 r 58) (by have:=X4 r 58;omega)
   cases hnum:U4 (O8 r 58) with
   | none=>
    rw [hnum] at hn
    refine P7 rfl rfl (.inl rfl) hn ?_
    rw [show T8 u r=(LUrl.zero,false) by simp [T8,a03,hc,hnum]]
    simp [e2,e4,e5,e6,m2,m5,tx,num,d7]
    refine Z3 _ ?_ ?_ ?_
    · simp [e2]
    · simp [d7,LUrl.zero,tx,num,bs]
    · simp
   | some n=>
    have hn1:=b80 hnum
    rw [hnum] at hn
    refine P7 rfl rfl (.inl rfl) hn ?_
    by_cases hin:1≤n∧n≤65535
    · simp [e2,e4,e5,e6,m2,m5,tx,num,d7]
      refine f6 rfl rfl (.inl rfl) (a6j .i64 n 1 65535) ?_
      simp [e2,e4,e5,e6,m2,m5,tx,num,d7,hin]
      refine f6 rfl rfl (.inl rfl) (b2n u.scheme) ?_
      by_cases hu:n=Y5 u.scheme
      · have e:T8 u r=(u,T3 u):=by
         have hl:a03 u.scheme r=some 0:=by
          simp only [a03,hc,hnum,hin,if_true,and_self]
          rw [if_pos hu]
         have:({ u with port:=0 }:LUrl)=u:=by rw [← hp]
         simp only [T8,hl,this]
        rw [e]
        simp [e2,e4,e5,e6,m2,m5,tx,num,d7,hu]
        refine a4t u hs r _ ⟨?_,?_,?_,?_,?_⟩<;>simp [e2,e5,e6,m2,m5,d7,tx,num]
      · have e:T8 u r=({ u with port:=n },T3 { u with port:=n }):=by
         simp only [T8,a03,hc,hnum,hin,if_true,and_self,hu,if_false]
        rw [e]
        simp [e2,e4,e5,e6,m2,m5,tx,num,d7,hu]
        refine a4t { u with port:=n } ?_ r _ ⟨?_,?_,?_,?_,?_⟩
        · exact ⟨hs.1,hs.2.1,hs.2.2.1,hs.2.2.2.1,hs.2.2.2.2.1,hs.2.2.2.2.2.1,by show n≤_;omega⟩
        all_goals simp [e2,e5,e6,m2,m5,d7,tx,num]
    · rw [show T8 u r=(LUrl.zero,false) by simp only [T8,a03,hc,hnum,hin,if_true,if_false]]
      simp [e2,e4,e5,e6,m2,m5,tx,num,d7]
      refine f6 rfl rfl (.inl rfl) (a6j .i64 n 1 65535) ?_
      have hd:decide (1≤n∧n≤65535)=false:=decide_eq_false hin
      rw [hd]
      simp [e2,e4,e5,e6,m2,m5,tx,num,d7]
      refine Z3 _ ?_ ?_ ?_
      · simp [e2]
      · simp [d7,LUrl.zero,tx,num,bs]
      · simp
 · have hge:P4 r 58=r.length:=by have:=mt V0.1 hc;omega
   have e:T8 u r=(u,T3 u):=by
    simp only [T8,a03,hc,if_false]
    have:({ u with port:=0 }:LUrl)=u:=by rw [← hp]
    rw [this]
   rw [e]
   simp [e2,e4,e5,e6,m2,m5,tx,num,b7,hge]
   refine a4t u hs r _ ⟨?_,?_,?_,?_,?_⟩<;>simp [e2,e5,e6,m2,m5,d7,tx,num]
theorem a7v (sc us pa qu fr:Tx) (hq hf:Bool) (h1:sc.length < 1099511627776) (h2:us.length < 1099511627776) (h3:pa.length < 1099511627776) (h4:qu.length < 1099511627776) (h5:fr.length < 1099511627776) (r:Tx) (hr:r.length < 1099511627776) (st:St)
 (h:UP st ⟨sc,us,[],0,pa,qu,fr,hq,hf⟩ r):EC Tryz.prog ir199_from15 st (K:=prs (T8 ⟨sc,us,R9 (F6 r 58),0,pa,qu,fr,hq,hf⟩ r)):=by
 unfold ir199_from15
 obtain ⟨e2,e5,e6,m2,m5⟩:=h
 have hle:=Y6 r 58
 simp [e2,e5,e6,m2,m5,tx,num,b7]
 refine f6 rfl rfl (.inl rfl) (Z8 r 58 hr) ?_
 simp [e2,e5,e6,m2,m5,tx,num,b7,hle,P9]
 refine f6 rfl rfl (.inl rfl) (b2o (F6 r 58) (by have:=S2 r 58;omega)) ?_
 simp [e2,e5,e6,m2,m5,tx,num,b7,d7]
 refine b4n ⟨sc,us,R9 (F6 r 58),0,pa,qu,fr,hq,hf⟩ ?_ rfl r hr _ ⟨?_,?_,?_,?_,?_⟩ ?_
 · refine ⟨h1,h2,?_,h3,h4,h5,by show (0:Int)≤_;omega⟩
   have:=S2 r 58
   simp [R9];omega
 all_goals simp [e2,e5,e6,m2,m5,d7,tx,num]
theorem a7w (sc pa qu fr:Tx) (hq hf:Bool) (h1:sc.length < 1099511627776) (h3:pa.length < 1099511627776) (h4:qu.length < 1099511627776) (h5:fr.length < 1099511627776) (r:Tx) (hr:r.length < 1099511627776) (st:St)
 (h:UP st ⟨sc,[],[],0,pa,qu,fr,hq,hf⟩ r):EC Tryz.prog ir199_from14 st (K:=prs (T8 ⟨sc,if 64∈r then F6 r 64 else [],R9 (F6 (if 64∈r then O8 r 64 else r) 58),0,pa,qu,fr,hq,hf⟩ (if 64∈r then O8 r 64 else r))):=by
 unfold ir199_from14
 obtain ⟨e2,e5,e6,m2,m5⟩:=h
 have hle:=Y6 r 64
 simp [e2,e5,e6,m2,m5,tx,num,b7]
 refine f6 rfl rfl (.inl rfl) (Z8 r 64 hr) ?_
 by_cases hc:64∈r
 · have hlt:=V0.2 hc
   have g2:IntKind.i64.wrap ((P4 r 64:Nat)+1:Int)=((P4 r 64+1:Nat):Int):=by rw [wrap_i64 (by omega) (by omega)];omega
   have g3:P4 r 64+1≤r.length:=by omega
   have g4:(0:Int)≤((P4 r 64:Nat):Int)+1:=by omega
   simp [e2,e5,e6,m2,m5,tx,num,b7,d7,hlt,hle,g2,g3,g4,P9,a2n]
   have e:(if 64∈r then O8 r 64 else r)=O8 r 64:=if_pos hc
   rw [if_pos hc,e]
   refine a7v sc (F6 r 64) pa qu fr hq hf h1 (by have:=S2 r 64;omega) h3 h4 h5 (O8 r 64) (by have:=X4 r 64;omega) _ ⟨?_,?_,?_,?_,?_⟩<;>simp [e2,e5,e6,m2,m5,d7,tx,num,F6,O8]
 · have hge:P4 r 64=r.length:=by have:=mt V0.1 hc;omega
   simp [e2,e5,e6,m2,m5,tx,num,b7,hge]
   have e:(if 64∈r then O8 r 64 else r)=r:=if_neg hc
   rw [if_neg hc,e]
   refine a7v sc [] pa qu fr hq hf h1 (by simp) h3 h4 h5 r hr _ ⟨?_,?_,?_,?_,?_⟩<;>simp [e2,e5,e6,m2,m5,d7,tx,num]
def b0h (sc pa qu fr:Tx) (hq hf:Bool) (r:Tx):LUrl×Bool:=
 T8 ⟨sc,if 64∈r then F6 r 64 else [],R9 (F6 (if 64∈r then O8 r 64 else r) 58),0,pa,qu,fr,hq,hf⟩ (if 64∈r then O8 r 64 else r)
theorem b4o (sc qu fr:Tx) (hq hf:Bool) (h1:sc.length < 1099511627776) (h4:qu.length < 1099511627776) (h5:fr.length < 1099511627776) (r:Tx) (hr:r.length < 1099511627776) (st:St)
 (h:UP st ⟨sc,[],[],0,r.drop (P4 r 47),qu,fr,hq,hf⟩ r) (e4:st.env 4=.val (num (P4 r 47))):EC Tryz.prog ir199_from12 st (K:=prs (b0h sc (if 47∈r then r.drop (P4 r 47) else [47]) qu fr hq hf (F6 r 47))):=by
 unfold ir199_from12
 obtain ⟨e2,e5,e6,m2,m5⟩:=h
 have hle:=Y6 r 47
 have e3:(⟨#[]⟩:ByteArray)=bs []:=rfl
 by_cases hc:47∈r
 · have hlt:=V0.2 hc
   have hne:¬ r.drop (P4 r 47)=[]:=by
    intro e;have:=congrArg List.length e;simp at this;omega
   have hne2:¬ r.length≤P4 r 47:=by omega
   rw [if_pos hc]
   simp [e2,e4,e5,e6,m2,m5,tx,num,b7,d7,e3,R3,hne,hne2,hle,P9]
   refine a7w sc (r.drop (P4 r 47)) qu fr hq hf h1 (by simp;omega) h4 h5 (F6 r 47) (by have:=S2 r 47;omega) _ ⟨?_,?_,?_,?_,?_⟩<;>simp [e2,e5,e6,m2,m5,d7,tx,num,F6]
 · have hge:P4 r 47=r.length:=by have:=mt V0.1 hc;omega
   have e4':(⟨#[47]⟩:ByteArray)=bs [47]:=rfl
   rw [if_neg hc]
   simp [e2,e4,e5,e6,m2,m5,tx,num,b7,d7,e3,e4',R3,hge,P9]
   refine a7w sc [47] qu fr hq hf h1 (by simp) h4 h5 (F6 r 47) (by have:=S2 r 47;omega) _ ⟨?_,?_,?_,?_,?_⟩<;>simp [e2,e5,e6,m2,m5,d7,tx,num,F6,hge]
def a57 (sc qu fr:Tx) (hq hf:Bool) (r:Tx):LUrl×Bool:=b0h sc (if 47∈r then r.drop (P4 r 47) else [47]) qu fr hq hf (F6 r 47)
theorem a7x (sc qu fr:Tx) (hq hf:Bool) (h1:sc.length < 1099511627776) (h4:qu.length < 1099511627776) (h5:fr.length < 1099511627776) (r:Tx) (hr:r.length < 1099511627776) (st:St)
 (h:UP st ⟨sc,[],[],0,[],qu,fr,hq,hf⟩ r):EC Tryz.prog ir199_from10 st (K:=prs (a57 sc qu fr hq hf r)):=by
 unfold ir199_from10
 obtain ⟨e2,e5,e6,m2,m5⟩:=h
 have hle:=Y6 r 47
 simp [e2,e5,e6,m2,m5,tx,num,b7]
 refine f6 rfl rfl (.inl rfl) (Z8 r 47 hr) ?_
 simp [e2,e5,e6,m2,m5,tx,num,b7,hle,P9,d7,a2n]
 refine b4o sc qu fr hq hf h1 h4 h5 r hr _ ⟨?_,?_,?_,?_,?_⟩ ?_<;>simp [e2,e5,e6,m2,m5,d7,tx,num]
theorem a9o (sc fr:Tx) (hf:Bool) (h1:sc.length < 1099511627776) (h5:fr.length < 1099511627776) (r:Tx) (hr:r.length < 1099511627776) (st:St)
 (h:UP st ⟨sc,[],[],0,[],[],fr,false,hf⟩ r):EC Tryz.prog ir199_from9 st (K:=prs (a57 sc (O8 r 63) fr (decide (63∈r)) hf (F6 r 63))):=by
 unfold ir199_from9
 obtain ⟨e2,e5,e6,m2,m5⟩:=h
 have hle:=Y6 r 63
 simp [e2,e5,e6,m2,m5,tx,num,b7]
 refine f6 rfl rfl (.inl rfl) (Z8 r 63 hr) ?_
 by_cases hc:63∈r
 · have hlt:=V0.2 hc
   have g2:IntKind.i64.wrap ((P4 r 63:Nat)+1:Int)=((P4 r 63+1:Nat):Int):=by rw [wrap_i64 (by omega) (by omega)];omega
   have g3:P4 r 63+1≤r.length:=by omega
   have g4:(0:Int)≤((P4 r 63:Nat):Int)+1:=by omega
   simp [e2,e5,e6,m2,m5,tx,num,b7,d7,hlt,hle,g2,g3,g4,P9,a2n]
   rw [decide_eq_true hc]
   refine a7x sc (O8 r 63) fr true hf h1 (by have:=X4 r 63;omega) h5 (F6 r 63) (by have:=S2 r 63;omega) _ ⟨?_,?_,?_,?_,?_⟩<;>simp [e2,e5,e6,m2,m5,d7,tx,num,F6,O8]
 · have hge:P4 r 63=r.length:=by have:=mt V0.1 hc;omega
   simp [e2,e5,e6,m2,m5,tx,num,b7,hge]
   rw [decide_eq_false hc,a0k hc,a7a hc]
   refine a7x sc [] fr false hf h1 (by simp) h5 r hr _ ⟨?_,?_,?_,?_,?_⟩<;>simp [e2,e5,e6,m2,m5,d7,tx,num]
theorem b6f (sc:Tx) (h1:sc.length < 1099511627776) (r:Tx) (hr:r.length < 1099511627776) (st:St)
 (h:UP st ⟨sc,[],[],0,[],[],[],false,false⟩ r):EC Tryz.prog ir199_from8 st (K:=prs (a4g sc r)):=by
 unfold ir199_from8
 obtain ⟨e2,e5,e6,m2,m5⟩:=h
 have hle:=Y6 r 35
 have e:a4g sc r=a57 sc (O8 (F6 r 35) 63) (O8 r 35) (decide (63∈F6 r 35)) (decide (35∈r)) (F6 (F6 r 35) 63):=rfl
 rw [e]
 simp [e2,e5,e6,m2,m5,tx,num,b7]
 refine f6 rfl rfl (.inl rfl) (Z8 r 35 hr) ?_
 by_cases hc:35∈r
 · have hlt:=V0.2 hc
   have g2:IntKind.i64.wrap ((P4 r 35:Nat)+1:Int)=((P4 r 35+1:Nat):Int):=by rw [wrap_i64 (by omega) (by omega)];omega
   have g3:P4 r 35+1≤r.length:=by omega
   have g4:(0:Int)≤((P4 r 35:Nat):Int)+1:=by omega
   simp [e2,e5,e6,m2,m5,tx,num,b7,d7,hlt,hle,g2,g3,g4,P9,a2n]
   rw [decide_eq_true hc]
   refine a9o sc (O8 r 35) true h1 (by have:=X4 r 35;omega) (F6 r 35) (by have:=S2 r 35;omega) _ ⟨?_,?_,?_,?_,?_⟩<;>simp [e2,e5,e6,m2,m5,d7,tx,num,F6,O8]
 · have hge:P4 r 35=r.length:=by have:=mt V0.1 hc;omega
   simp [e2,e5,e6,m2,m5,tx,num,b7,hge]
   rw [decide_eq_false hc,a0k hc,a7a hc]
   refine a9o sc [] false h1 (by simp) r hr _ ⟨?_,?_,?_,?_,?_⟩<;>simp [e2,e5,e6,m2,m5,d7,tx,num]
theorem b6g (sc:Tx) (h1:sc.length < 1099511627776) (r:Tx) (hr:r.length < 1099511627776) (st:St)
 (h:UP st ⟨sc,[],[],0,[],[],[],false,false⟩ r):EC Tryz.prog ir199_from5 st (K:=prs (if a0b sc then if r.take 2=[47,47] then a4g sc (r.drop 2) else (LUrl.zero,false) else (⟨sc,[],[],0,F6 (F6 r 35) 63,[],[],false,false⟩,T3 ⟨sc,[],[],0,F6 (F6 r 35) 63,[],[],false,false⟩))):=by
 unfold ir199_from5
 obtain ⟨e2,e5,e6,m2,m5⟩:=h
 have e7:(⟨#[47,47]⟩:ByteArray)=bs [47,47]:=rfl
 simp [e2,e5,e6,m2,m5,tx,num,b7,d7]
 refine f6 rfl rfl (.inl rfl) (a8f sc) ?_
 by_cases hw:a0b sc=true
 · rw [if_pos hw]
   by_cases h2:r.length < 2
   · have h2':(r.length:Int) < 2:=by omega
     have ht:¬ r.take 2=[47,47]:=fun e=>by have:=congrArg List.length e;simp at this;omega
     rw [if_neg ht]
     simp [e2,e5,e6,m2,m5,tx,num,b7,d7,hw,h2']
     refine Z3 _ ?_ ?_ ?_
     · simp [e2]
     · simp [d7,LUrl.zero,tx,num,bs]
     · simp
   · have h2':¬ (r.length:Int) < 2:=by omega
     have h2'':(2:Int)≤r.length:=by omega
     have h2n:2≤r.length:=by omega
     by_cases ht:r.take 2=[47,47]
     · rw [if_pos ht]
       simp [e2,e5,e6,m2,m5,tx,num,b7,d7,hw,h2',h2'',h2n,e7,P9,ht,a2n]
       refine b6f sc h1 (r.drop 2) (by simp;omega) _ ⟨?_,?_,?_,?_,?_⟩<;>simp [e2,e5,e6,m2,m5,d7,tx,num]
     · rw [if_neg ht]
       simp [e2,e5,e6,m2,m5,tx,num,b7,d7,hw,h2',h2'',h2n,e7,P9,R3,ht]
       refine Z3 _ ?_ ?_ ?_
       · simp [e2]
       · simp [d7,LUrl.zero,tx,num,bs]
       · simp
 · rw [if_neg hw]
   have hl1:=Y6 r 35
   have hl2:=Y6 (F6 r 35) 63
   have hl3:=S2 r 35
   have hl4:=S2 (F6 r 35) 63
   simp [e2,e5,e6,m2,m5,tx,num,b7,d7,hw]
   refine f6 rfl rfl (.inl rfl) (Z8 r 35 hr) ?_
   simp [e2,e5,e6,m2,m5,tx,num,b7,d7,hw,hl1,P9]
   refine f6 rfl rfl (.inl rfl) (Z8 (F6 r 35) 63 (by omega)) ?_
   have hl2':P4 (F6 r 35) 63≤P4 r 35∧P4 (F6 r 35) 63≤r.length:=by
    refine ⟨?_,by omega⟩
    have:(F6 r 35).length≤P4 r 35:=by unfold F6;simp;omega
    omega
   have hl2i:((P4 (F6 r 35) 63:Nat):Int)≤(min (P4 r 35) r.length:Nat):=by omega
   simp [e2,e5,e6,m2,m5,tx,num,b7,d7,hw,hl1,hl2',P9,b8]
   refine Q6 rfl rfl (.inl rfl) (c09 ⟨sc,[],[],0,F6 (F6 r 35) 63,[],[],false,false⟩ ⟨h1,by simp,by simp,by show (F6 (F6 r 35) 63).length < _;omega,by simp,by simp,by show (0:Int)≤_;omega⟩) ?_
   simp [e2,e5,e6,m2,m5,tx,num,b7,d7,hw,hl1,P9,b8]
   refine a5h (id:=2) ?_ ?_ ?_
   · simp [e2]
   · simp [d7,tx,num,F6]
   · simp
theorem b96 (t:Tx) (ht:t.length < 1099511627776):z6 Tryz.prog 199 [.val (tx t)] (.ret (a4e (R5 t)) []) []:=by
 refine K4 mixed ok199 rfl (fun _=>rfl) ?_
 unfold ir199
 rw [d9]
 have hle:=Y6 t 58
 simp [w8,J8,P1,b9,q8,tx,num,b7]
 refine f6 rfl rfl (.inl rfl) (Z8 t 58 ht) ?_
 by_cases hc:58∈t
 · have hlt:=V0.2 hc
   have hne:¬ ((P4 t 58:Nat):Int)=(t.length:Int):=by omega
   have hne':¬ P4 t 58=t.length:=by omega
   have g2:IntKind.i64.wrap ((P4 t 58:Nat)+1:Int)=((P4 t 58+1:Nat):Int):=by rw [wrap_i64 (by omega) (by omega)];omega
   have g3:P4 t 58+1≤t.length:=by omega
   have g4:(0:Int)≤((P4 t 58:Nat):Int)+1:=by omega
   simp [tx,num,b7,hlt,hle,hne,hne',P9]
   refine f6 rfl rfl (.inl rfl) (b2o (F6 t 58) (by have:=S2 t 58;omega)) ?_
   simp [tx,num,b7,hlt,hle,hne,hne',g2,g3,g4,P9,a2n]
   rw [show R5 t=(if a0b (R9 (F6 t 58)) then if (O8 t 58).take 2=[47,47] then a4g (R9 (F6 t 58)) ((O8 t 58).drop 2) else (LUrl.zero,false) else (⟨R9 (F6 t 58),[],[],0,F6 (F6 (O8 t 58) 35) 63,[],[],false,false⟩,T3 ⟨R9 (F6 t 58),[],[],0,F6 (F6 (O8 t 58) 35) 63,[],[],false,false⟩)) by unfold R5;rw [if_pos hc]]
   refine b6g (R9 (F6 t 58)) (by have:=S2 t 58;simp [R9];omega) (O8 t 58) (by have:=X4 t 58;omega) _ ⟨?_,?_,?_,?_,?_⟩<;>simp [d7,tx,num,LUrl.zero,bs,O8]
 · have hge:P4 t 58=t.length:=by have:=mt V0.1 hc;omega
   rw [show R5 t=(LUrl.zero,false) by unfold R5;rw [if_neg hc]]
   simp [tx,num,b7,hge]
   refine Z3 _ ?_ ?_ ?_
   · simp
   · simp [d7,LUrl.zero,tx,num,bs]
   · simp
end Go.Proofs
end
section
namespace Go.Proofs
open Go.PW Go.KP
variable [GF]
structure TO (st:St) (x:LTarget) (u:LUrl):Prop where
 e1:st.env 1=.ptr 1 0
 e3:st.env 3=.ptr 3 0
 m1:st.mem 1=.box [.val (tx x.url),.val (num x.prio),.val (num x.weight)]
 m3:st.mem 3=.box (d7 u)
end Go.Proofs
end
section
namespace Go.Proofs
open Go.PW Go.KP
variable [GF]
theorem a92 (c:UInt8):z6 Tryz.prog 214 [.val (rvb c)] (.ret (.val (.bool (a0l c))) []) []:=by
 refine K4 mixed ok214 rfl (fun _=>rfl) ?_
 unfold ir214
 rw [d9]
 have e1:((97:Int)≤c.toNat)↔97≤c.toNat:=by omega
 have e2:((c.toNat:Int)≤122)↔c.toNat≤122:=by omega
 have e3:((65:Int)≤c.toNat)↔65≤c.toNat:=by omega
 have e4:((c.toNat:Int)≤90)↔c.toNat≤90:=by omega
 have e5:((c.toNat:Int)=95)↔c.toNat=95:=by omega
 by_cases h1:97≤c.toNat<;>by_cases h2:c.toNat≤122<;>by_cases h3:65≤c.toNat<;>by_cases h4:c.toNat≤90<;>by_cases h5:c.toNat=95<;>first | (exfalso;omega) | simp [w8,J8,P1,b9,q8,rvb,a0l,V7,isUp,e1,e2,e3,e4,e5,h1,h2,h3,h4,h5]
theorem a3v {c:UInt8} (h:a0l c=true):a10 c=true:=by simp [a10,h]
theorem c2y (t:Tx) (ht:t.length < 1099511627776):z6 Tryz.prog 161 [.val (tx t)] (.ret (.val (.bool (Z6 t))) []) []:=by
 refine K4 mixed ok161 rfl (fun _=>rfl) ?_
 unfold ir161
 rw [d9]
 by_cases h1:t.length < 1
 · have:Z6 t=false:=by unfold Z6;rw [decide_eq_false (by omega)];rfl
   have h1':(t.length:Int) < 1:=by omega
   simp [w8,J8,P1,b9,q8,tx,b7,h1',this]
 by_cases h2:12 < t.length
 · have h1':¬ (t.length:Int) < 1:=by omega
   have h2':(12:Int) < t.length:=by omega
   have:Z6 t=false:=by unfold Z6;rw [decide_eq_false (by omega)];rfl
   simp [w8,J8,P1,b9,q8,tx,b7,h1',h2',this]
 have h1':¬ (t.length:Int) < 1:=by omega
 have h2':¬ (12:Int) < t.length:=by omega
 have h0:0 < t.length:=by omega
 have hw:Z6 t=a09 a0l a10 t:=by unfold Z6;rw [decide_eq_true (by omega)];rfl
 simp [w8,J8,P1,b9,q8,tx,b7,h1',h2',z1,h0]
 refine f6 rfl rfl (.inl rfl) (a92 t[0]) ?_
 cases hl:a0l t[0] with
 | false=>
  have:Z6 t=false:=by rw [hw];exact a39 t 0 h0 (by rw [if_pos rfl];exact hl)
  simp [this]
 | true=>
  have hst:=a4y (p:=a0l) (q:=a10) (fun _ h=>a3v h) t 0 h0
  simp
  refine S1 (X:=Nat) (fun i=>⟨S7 [(0,.val (.str (bs t))),(3,.val (.int .i64 i))],S0 []⟩) (fun i=>1≤i∧i≤t.length∧a09 a0l a10 (t.take i)=true) (fun i=>t.length - i) 1 (Le.mk _ _ ?_ ?_) ?_ ?_
  · simp [upd]
  · simp
  · refine ⟨Nat.le_refl _,h0,?_⟩
    rw [hst,if_pos rfl,hl];simp [a09]
  · rintro i ⟨hi1,hi,hall⟩
    have hi0:i≠0:=by omega
    simp [b7,z1]
    refine O5 (fun h3=>?_) (fun h3=>?_)
    · have hstep:=a4y (p:=a0l) (q:=a10) (fun _ h=>a3v h) t i h3
      rw [hall,Bool.true_and,if_neg hi0] at hstep
      have a2x:=a39 (p:=a0l) (q:=a10) t i h3
      rw [if_neg hi0] at a2x
      simp [b7,z1,h3]
      refine f6 rfl rfl (.inl rfl) (a92 t[i]) ?_
      cases hlt:a0l t[i] with
      | true=>
       simp
       refine LoopNext.mk (i+1) ⟨by omega,by omega,by rw [hstep];exact a3v hlt⟩ (by omega) (Le.mk _ _ ?_ ?_)
       · simp;exact wrap_i64 (by omega) (by omega)
       · simp
      | false=>
       simp [b7,z1,h3]
       refine f6 rfl rfl (.inl rfl) (a1g t[i]) ?_
       cases hd:P8 t[i] with
       | true=>
        simp
        refine LoopNext.mk (i+1) ⟨by omega,by omega,by rw [hstep];simp [a10,hd]⟩ (by omega) (Le.mk _ _ ?_ ?_)
        · simp;exact wrap_i64 (by omega) (by omega)
        · simp
       | false=>
        have:Z6 t=false:=by rw [hw];exact a2x (by simp [a10,hd,hlt])
        simp [this]
    · have e:i=t.length:=by omega
      subst e
      rw [List.take_length] at hall
      simp [hw,hall]
end Go.Proofs
end
section
namespace Go.Proofs
open Go.PW Go.KP
attribute [local simp] RV.cells RV.one PV.cells PV.solid PV.one N3 b8 O9 P0 RV.ofCells elems PV.killL
variable [GF]
theorem b95 (t:Tx) (ht:t.length < 1099511627776):z6 Tryz.prog 144 [.val (tx t)] (.ret (Z7 (Z4 t)) []) []:=by
 refine K4 mixed ok144 rfl (fun _=>rfl) ?_
 unfold ir144
 rw [d9]
 have hsm:=b4x ht
 have hp:=b96 t ht
 unfold Z4
 generalize R5 t=r at *
 obtain ⟨u,b⟩:=r
 simp only at hsm ⊢
 simp [w8,J8,P1,b9,q8,tx]
 refine b2j rfl rfl (fun _=>rfl) rfl (.inl rfl) hp ?_
 simp [a4e,W5,tx,num]
 cases b with
 | false=>simp [Z7,tx,bs]
 | true=>
  simp
  refine f6 rfl rfl (.inl rfl) (a8f u.scheme) ?_
  cases hw:a0b u.scheme with
  | false=>simp [Z7,tx,bs]
  | true=>
   simp
   have hs2:LUrl.Small { u with frag:=[],hasF:=false }:=⟨hsm.1,hsm.2.1,hsm.2.2.1,hsm.2.2.2.1,hsm.2.2.2.2.1,by simp,hsm.2.2.2.2.2.2⟩
   refine f6 rfl rfl (.inl rfl) (b4a { u with frag:=[],hasF:=false } hs2) ?_
   simp [Z7,tx]
theorem c5h (l:List Tx) (t:Tx) (hl:l.length < 1099511627776):z6 Tryz.prog 192 [.val (.list 1 (l.map tx)),.val (tx t)] (.ret (.val (.bool (decide (t∈l)))) []) []:=by
 refine K4 mixed ok192 rfl (fun _=>rfl) ?_
 unfold ir192
 rw [d9]
 simp [w8,J8,P1,b9,q8,num]
 refine S1 (X:=Nat) (fun i=>⟨S7 [(0,.val (.list 1 (l.map tx))),(1,.val (tx t)),(5,.val (num i))],S0 []⟩) (fun i=>i≤l.length∧t∉l.take i) (fun i=>l.length - i) 0 (Le.mk _ _ ?_ ?_) ?_ ?_
 · simp [upd,num]
 · simp
 · simp
 · rintro i ⟨hi,hne⟩
   simp [num]
   refine O5 (fun h1=>?_) (fun h1=>?_)
   · have e1:(l.map tx)[i]?.getD .nilptr=tx l[i]:=by simp [List.getElem?_eq_getElem h1]
     simp [num,h1,e1,tx,R3]
     by_cases hu:l[i]=t
     · have:t∈l:=by rw [← hu];exact List.getElem_mem h1
       simp [hu,this]
     · simp [hu]
       refine LoopNext.mk (i+1) ⟨by omega,?_⟩ (by omega) (Le.mk _ _ ?_ ?_)
       · rw [List.take_add_one,List.getElem?_eq_getElem h1,List.mem_append]
         rintro (e | e)
         · exact hne e
         · exact hu (by simpa using e:t=l[i]).symm
       · simp [num,tx];exact wrap_i64 (by omega) (by omega)
       · simp
   · have e:i=l.length:=by omega
     subst e
     rw [List.take_length] at hne
     simp [hne]
end Go.Proofs
end
section
namespace Go.Proofs
open Go.PW Go.KP
attribute [local simp] RV.cells RV.one PV.cells PV.solid PV.one N3 b8 O9 P0 RV.ofCells elems PV.killL
variable [GF]
theorem c_l03At (l:List LTarget) (name:Tx) (hl:l.length < 1099511627776):z6 Tryz.prog 163 [.val (.list 3 (l.map J9)),.val (tx name)] (.ret (.val (num (a2i l fun r=>decide (r.url=name)))) []) []:=by
 refine K4 mixed ok163 rfl (fun _=>rfl) ?_
 unfold ir163
 rw [d9]
 simp [w8,J8,P1,b9,q8,num]
 refine S1 (X:=Nat) (fun i=>⟨S7 [(0,.val (.list 3 (l.map J9))),(1,.val (tx name)),(5,.val (num i))],S0 []⟩) (fun i=>i≤l.length∧∀ k (hk:k < i) (hk':k < l.length),l[k].url≠name) (fun i=>l.length - i) 0 (Le.mk _ _ ?_ ?_) ?_ ?_
 · simp [upd,num]
 · simp
 · simp
 · rintro i ⟨hi,hne⟩
   simp [num]
   refine O5 (fun h1=>?_) (fun h1=>?_)
   · have e1:(l.map J9)[i]?.getD .nilptr=J9 l[i]:=by simp [List.getElem?_eq_getElem h1]
     simp [num,h1,e1,J9,tx,R3]
     by_cases hu:l[i].url=name
     · have hh:a2i l (fun r=>decide (r.url=name))=i:=a71 h1 (by simp [hu]) (fun k hk=>by simp [hne k hk (by omega)])
       simp [hu,hh,num]
     · simp [hu]
       refine LoopNext.mk (i+1) ⟨by omega,fun k hk hk'=>?_⟩ (by omega) (Le.mk _ _ ?_ ?_)
       · by_cases e:k=i
         · subst e;exact hu
         · exact hne k (by omega) hk'
       · simp [num,tx];exact wrap_i64 (by omega) (by omega)
       · simp
   · have e:i=l.length:=by omega
     have hh:a2i l (fun r=>decide (r.url=name))=-1:=a6d (fun k hk=>by simp [hne k (by omega) hk])
     simp [hh,num]
end Go.Proofs
end
