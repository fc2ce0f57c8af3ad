/- Ca: merged out of KSa, KSb, KSc, KSd, KSe, KSr. -/
import Derived.Test.YtapjdgcfakhpaaaGreatDoorBa
import Derived.Test.YtapjdgcfakhpaaaGreatDoorAc
set_option linter.unusedSectionVars false
set_option linter.unusedSimpArgs false
set_option linter.unusedVariables false
set_option maxRecDepth 100000
section
namespace Go.Proofs
open Go.PW Go.KP
attribute [local simp] RV.cells RV.one PV.cells PV.solid PV.one w5 i6 n7 n6 RV.ofCells elems PV.killL
theorem mixed:Tryz.prog.follows .mixedOrders=true:=by kernel_rfl
variable [GF]
theorem a7c (k:IntKind) (a lo hi:Int):f7 Tryz.prog 108 [.val (.int k a),.val (.int k lo),.val (.int k hi)] (.ret (.val (.bool (decide (lo≤a∧a≤hi)))) []) []:=by
 refine f9 mixed ok108 rfl (fun _=>rfl) ?_
 unfold ir108
 rw [b9]
 by_cases h:lo≤a
 · simp [d9,j4,l0,b7,d8,h]
 · simp [d9,j4,l0,b7,d8,h]
theorem Y2 (t:Tx) (c:UInt8) (ht:t.length < 1099511627776):f7 Tryz.prog 265 [.val (tx t),.val (rvb c)] (.ret (.val (num (l8 t c))) []) []:=by
 refine f9 mixed ok265 rfl (fun _=>rfl) ?_
 unfold ir265
 rw [b9]
 simp only [z7,H0,A0,G8,A1,t8,z8,G9,o0,C0,I4,I5,k9,r8,r9,m8,A2,t7,n5,G7,z6,t6,s8,E9,F0,a27,a28,Option.getD_some,Option.getD_none,D5,u7,q7,E6,p9,o8,E8,o9,E7,E5,E4,I9,x8,p7,E2,x6,p6,E1,D3,E3,x7,D8,o7,x5,D9,J1,J0,D4,D6,p5,D7,x9,p8,C3,o2,D2,D1,D0,I6,x3,o4,C8,x1,o3,C7,C1,C9,x2,C5,o1,w9,C6,I8,I7,C2,w8,o6,C4,x4,o5,L2,K9,M3,L3,L7,L5,L4,M2,L6,L8,L9,M0,M1,A6,A5,A4,O5,O6,u2,H1,u9,F4,y4,M6,u1,U8,P0,M8,Q3,Q5,Q4,U9,V0,K2,K4,K3,K5,K6,Q0,y6,P9,F5,F6,F7,y7,a3d,G4,z1,U6,U7,J2,O7,O8,Option.map_some,Option.map_none,F8,y8,y0,q8,F2,F3,J4,J3,R0,Q9,K8,G5,G6,K7,Q6,Q7,J6,r6,J7,q9,P4,G3,G2,n0,Q2,Q8,J9,P6,P8,P7,y5,B7,B9,B8,l5,Q1,V2,V1,P1,J8,a0g,P2,r7,G0,G1,y9,F9,l9,w6,l7,w7,l6,M5,R1,R2,A7,A8,H3,H2,F1,d9,j4,l0,b7,d8,tx,rvb,num]
 refine l4 (X:=Nat) (fun i=>⟨u0 [(0,.val (.str (bs t))),(1,.val (.int .u8 c.toNat)),(5,.val (.int .i64 i))],u4 []⟩) (fun i=>i≤t.length∧∀ k,k < i→t.getD k 0≠c) (fun i=>t.length - i) 0 (Le.mk _ _ ?_ ?_) ?_ ?_
 · simp [upd]
 · simp
 · simp
 · rintro i ⟨hi,hne⟩
   simp [b6,f6,u8_eq]
   refine i7 (fun h1=>?_) (fun h1=>?_)
   · simp [b6,f6,u8_eq,h1]
     refine i7 (fun h2=>?_) (fun h2=>?_)
     · simp
       rw [b45 t c i hi hne (.inr (by rw [a2f _ _ _ h1];exact h2))];rfl
     · simp
       refine LoopNext.mk (i+1) ⟨by omega,fun k hk=>?_⟩ (by omega) (Le.mk _ _ ?_ ?_)
       · by_cases e:k=i
         · subst e;simpa [List.getElem?_eq_getElem h1] using h2
         · simpa using hne k (by omega)
       · simp [u2,u9];rw [wrap_i64 (by omega) (by omega)]
       · simp
   · have e:i=t.length:=by omega
     simp [b6]
     rw [b45 t c i hi hne (.inl e),e];rfl
theorem a7b (t:Tx):f7 Tryz.prog 256 [.val (tx t)] (.ret (.val (.bool (W5 t))) []) []:=by
 refine f9 mixed ok256 rfl (fun _=>rfl) ?_
 unfold ir256
 rw [b9]
 have e1:(⟨#[104,116,116,112]⟩:ByteArray)=bs a31:=rfl
 have e2:(⟨#[104,116,116,112,115]⟩:ByteArray)=bs a54:=rfl
 by_cases h:t=a31
 · simp [d9,j4,l0,b7,d8,tx,e1,e2,u5,W5,h]
 · by_cases h':t=a54
   · subst h'
     simp [d9,j4,l0,b7,d8,tx,e1,e2,u5,W5,show ¬ a54=a31 by decide]
   · simp [d9,j4,l0,b7,d8,tx,e1,e2,u5,W5,h,h']
theorem b0y (t:Tx):f7 Tryz.prog 269 [.val (tx t)] (.ret (.val (num (V3 t))) []) []:=by
 refine f9 mixed ok269 rfl (fun _=>rfl) ?_
 unfold ir269
 rw [b9]
 have e1:(⟨#[104,116,116,112]⟩:ByteArray)=bs a31:=rfl
 by_cases h:t=a31
 · simp [d9,j4,l0,b7,d8,tx,e1,u5,V3,h,num]
 · simp [d9,j4,l0,b7,d8,tx,e1,u5,V3,h,num]
theorem a14 (c:UInt8):f7 Tryz.prog 235 [.val (rvb c)] (.ret (.val (.bool (u3 c))) []) []:=by
 refine f9 mixed ok235 rfl (fun _=>rfl) ?_
 unfold ir235
 rw [b9]
 have e1:((48:Int)≤c.toNat)↔48≤c.toNat:=by omega
 have e2:((c.toNat:Int)≤57)↔c.toNat≤57:=by omega
 by_cases h:48≤c.toNat
 · simp [d9,j4,l0,b7,d8,rvb,u3,h,e1,e2]
 · simp [d9,j4,l0,b7,d8,rvb,u3,h,e1,e2]
theorem b7c {c:UInt8} (h1:65≤c.toNat) (h2:c.toNat≤90):(c.toNat:Int)+32=((c+32).toNat:Int):=by
 rw [UInt8.toNat_add]
 simp
 omega
theorem b0z (t:Tx) (ht:t.length < 1099511627776):f7 Tryz.prog 266 [.val (tx t)] (.ret (.val (tx (B2 t))) []) []:=by
 refine f9 mixed ok266 rfl (fun _=>rfl) ?_
 unfold ir266
 rw [b9]
 simp only [z7,H0,A0,G8,A1,t8,z8,G9,o0,C0,I4,I5,k9,r8,r9,m8,A2,t7,n5,G7,z6,t6,s8,E9,F0,a27,a28,Option.getD_some,Option.getD_none,D5,u7,q7,E6,p9,o8,E8,o9,E7,E5,E4,I9,x8,p7,E2,x6,p6,E1,D3,E3,x7,D8,o7,x5,D9,J1,J0,D4,D6,p5,D7,x9,p8,C3,o2,D2,D1,D0,I6,x3,o4,C8,x1,o3,C7,C1,C9,x2,C5,o1,w9,C6,I8,I7,C2,w8,o6,C4,x4,o5,L2,K9,M3,L3,L7,L5,L4,M2,L6,L8,L9,M0,M1,A6,A5,A4,O5,O6,u2,H1,u9,F4,y4,M6,u1,U8,P0,M8,Q3,Q5,Q4,U9,V0,K2,K4,K3,K5,K6,Q0,y6,P9,F5,F6,F7,y7,a3d,G4,z1,U6,U7,J2,O7,O8,Option.map_some,Option.map_none,F8,y8,y0,q8,F2,F3,J4,J3,R0,Q9,K8,G5,G6,K7,Q6,Q7,J6,r6,J7,q9,P4,G3,G2,n0,Q2,Q8,J9,P6,P8,P7,y5,B7,B9,B8,l5,Q1,V2,V1,P1,J8,a0g,P2,r7,G0,G1,y9,F9,l9,w6,l7,w7,l6,M5,R1,R2,A7,A8,H3,H2,F1,d9,j4,l0,b7,d8,tx,elems]
 refine l4 (X:=Nat) (fun i=>⟨u0 [(0,.val (.str (bs t))),(3,.own 6),(4,.val (.int .i64 i))],u4 [(6,.row 5 1 ((B2 (t.take i)).map rvb))]⟩) (fun i=>i≤t.length) (fun i=>t.length - i) 0 (Le.mk _ _ ?_ ?_) ?_ ?_
 · simp [upd,PV.kill]
 · simp [upd,B2]
 · simp
 · rintro i hi
   simp [b6,f6,elems]
   refine i7 (fun h1=>?_) (fun h1=>?_)
   · have hnext:∀ st':St,st'.env 0=.val (.str (bs t))→st'.env 3=.own 6→st'.env 4=.val (.int .i64 ((i:Int)+1))→st'.mem 6=.row 5 1 ((B2 (t.take i)).map rvb++[rvb (b40 (t.getD i 0))]) →
      ∃ x',x'≤t.length∧t.length - x' < t.length - i∧Le st' ⟨u0 [(0,.val (.str (bs t))),(3,.own 6),(4,.val (.int .i64 (x':Int)))],u4 [(6,.row 5 1 ((B2 (t.take x')).map rvb))]⟩:=fun st' q1 q2 q3 q4=>by
      refine ⟨i+1,by omega,by omega,Le.mk _ _ ?_ ?_⟩
      · simp [q1,q2,q3]
      · simp only [List.mem_singleton,forall_eq,q4]
        rw [b1s t i 0 h1]
        simp [B2]
     have hlen:(B2 (t.take i)).length=i:=by simp [B2];omega
     have e1:((65:Int)≤(t[i].toNat:Int))↔65≤t[i].toNat:=by omega
     have e2:((t[i].toNat:Int)≤90)↔t[i].toNat≤90:=by omega
     by_cases h2:65≤t[i].toNat
     · by_cases h3:t[i].toNat≤90
       · simp [b6,f6,h1,e1,e2,h2,h3,hlen]
         refine ⟨by omega,by omega,hnext _ ?_ ?_ ?_ ?_⟩
         · simp [u2]
         · simp [u2]
         · simp [u2];exact wrap_i64 (by omega) (by omega)
         · rw [a2f _ _ _ h1]
           simp [u2,rvb,b40,h2,h3]
           rw [b7c h2 h3]
           have:=(t[i]+32).toNat_lt
           rw [a9a (by omega) (by omega)]
           omega
       · simp [b6,f6,h1,e1,e2,h2,h3,hlen]
         refine ⟨by omega,by omega,hnext _ ?_ ?_ ?_ ?_⟩
         · simp [u2]
         · simp [u2]
         · simp [u2];exact wrap_i64 (by omega) (by omega)
         · rw [a2f _ _ _ h1]
           simp [u2,rvb,b40,h2,h3]
     · simp [b6,f6,h1,e1,e2,h2,hlen]
       refine ⟨by omega,by omega,hnext _ ?_ ?_ ?_ ?_⟩
       · simp [u2]
       · simp [u2]
       · simp [u2];exact wrap_i64 (by omega) (by omega)
       · rw [a2f _ _ _ h1]
         simp [u2,rvb,b40,h2]
   · have e:i=t.length:=by omega
     subst e
     have e1:(B2 t).map rvb=(B2 (t.take t.length)).map rvb:=by simp
     simp [b6]
     exact ⟨fun x _=>rfl,by rw [b56];rfl⟩
theorem a5h (t wo:Tx) (ht:t.length < 1099511627776) (hw:wo.length < 1099511627776):f7 Tryz.prog 313 [.val (tx t),.val (tx wo)] (.ret (.val (.bool (T0 t wo))) []) []:=by
 refine f9 mixed ok313 rfl (fun _=>rfl) ?_
 unfold ir313
 rw [b9]
 simp only [z7,H0,A0,G8,A1,t8,z8,G9,o0,C0,I4,I5,k9,r8,r9,m8,A2,t7,n5,G7,z6,t6,s8,E9,F0,a27,a28,Option.getD_some,Option.getD_none,D5,u7,q7,E6,p9,o8,E8,o9,E7,E5,E4,I9,x8,p7,E2,x6,p6,E1,D3,E3,x7,D8,o7,x5,D9,J1,J0,D4,D6,p5,D7,x9,p8,C3,o2,D2,D1,D0,I6,x3,o4,C8,x1,o3,C7,C1,C9,x2,C5,o1,w9,C6,I8,I7,C2,w8,o6,C4,x4,o5,L2,K9,M3,L3,L7,L5,L4,M2,L6,L8,L9,M0,M1,A6,A5,A4,O5,O6,u2,H1,u9,F4,y4,M6,u1,U8,P0,M8,Q3,Q5,Q4,U9,V0,K2,K4,K3,K5,K6,Q0,y6,P9,F5,F6,F7,y7,a3d,G4,z1,U6,U7,J2,O7,O8,Option.map_some,Option.map_none,F8,y8,y0,q8,F2,F3,J4,J3,R0,Q9,K8,G5,G6,K7,Q6,Q7,J6,r6,J7,q9,P4,G3,G2,n0,Q2,Q8,J9,P6,P8,P7,y5,B7,B9,B8,l5,Q1,V2,V1,P1,J8,a0g,P2,r7,G0,G1,y9,F9,l9,w6,l7,w7,l6,M5,R1,R2,A7,A8,H3,H2,F1,d9,j4,l0,b7,d8,tx]
 refine l4 (X:=Nat) (fun i=>⟨u0 [(0,.val (.str (bs t))),(1,.val (.str (bs wo))),(5,.val (.int .i64 i))],u4 []⟩) (fun i=>i≤t.length∧T0 (t.take i) wo=true) (fun i=>t.length - i) 0 (Le.mk _ _ ?_ ?_) ?_ ?_
 · simp [upd]
 · simp
 · simp [T0]
 · rintro i ⟨hi,hall⟩
   simp [b6,f6]
   refine i7 (fun h1=>?_) (fun h1=>?_)
   · have hstep:T0 (t.take (i+1)) wo=(decide (33≤t[i].toNat∧t[i].toNat≤126) && !decide (t[i]∈wo)):=by
      unfold T0 at hall ⊢
      rw [O0 t _ i h1,hall,Bool.true_and]
     have U4:(decide (33≤t[i].toNat∧t[i].toNat≤126) && !decide (t[i]∈wo))=false→T0 t wo=false:=fun hb=>by
      unfold T0
      rw [List.all_eq_false]
      exact ⟨t[i],List.getElem_mem h1,by simpa using hb⟩
     have e1:((t[i].toNat:Int) < 33)↔t[i].toNat < 33:=by omega
     have e2:((126:Int) < (t[i].toNat:Int))↔126 < t[i].toNat:=by omega
     by_cases h2:33≤t[i].toNat
     · have h2':¬ t[i].toNat < 33:=by omega
       by_cases h3:126 < t[i].toNat
       · simp [b6,f6,h1,e1,e2,h2,h2',h3]
         exact U4 (by simp;omega)
       · simp [b6,f6,h1,e1,e2,h2,h2',h3]
         refine d7 rfl rfl (.inl rfl) (Y2 wo t[i] hw) ?_
         by_cases h4:t[i]∈wo
         · simp [num,b6,O4,h4]
           exact U4 (by simp [h4])
         · simp [num,b6,O4,h4]
           refine LoopNext.mk (i+1) ⟨by omega,by rw [hstep];simp [h4];omega⟩ (by omega) (Le.mk _ _ ?_ ?_)
           · simp [u2];exact wrap_i64 (by omega) (by omega)
           · simp
     · have h2':t[i].toNat < 33:=by omega
       simp [b6,f6,h1,e1,e2,h2,h2']
       exact U4 (by simp;omega)
   · have e:i=t.length:=by omega
     subst e
     simp [b6]
     simpa using hall.symm
theorem b51 (t:Tx) (ht:t.length < 1099511627776):f7 Tryz.prog 312 [.val (tx t)] (.ret (.val (.bool (N9 t))) []) []:=by
 refine f9 mixed ok312 rfl (fun _=>rfl) ?_
 unfold ir312
 rw [b9]
 simp [d9,j4,l0,b7,d8,tx,b6]
 refine d7 rfl rfl (.inl rfl) (a7c .i64 t.length 1 12) ?_
 by_cases hlen:1≤t.length∧t.length≤12
 rotate_left
 · rw [show decide ((1:Int)≤t.length∧(t.length:Int)≤12)=false from decide_eq_false (by omega)]
   simp
   simp [N9,hlen]
 rw [show decide ((1:Int)≤t.length∧(t.length:Int)≤12)=true from decide_eq_true (by omega)]
 simp
 refine l4 (X:=Nat) (fun i=>⟨u0 [(0,.val (.str (bs t))),(3,.val (.int .i64 i))],u4 []⟩) (fun i=>i≤t.length∧a1j (t.take i)=true) (fun i=>t.length - i) 0 (Le.mk _ _ ?_ ?_) ?_ ?_
 · simp [upd]
 · simp
 · simp [a1j]
 · rintro i ⟨hi,hall⟩
   simp [b6,f6]
   refine i7 (fun h1=>?_) (fun h1=>?_)
   · have hstep:=a8d t i h1
     rw [hall,Bool.true_and] at hstep
     have U4:=a6w t i h1
     have hls:N9 t=a1j t:=by simp [N9,hlen]
     have e1:((97:Int)≤(t[i].toNat:Int))↔97≤t[i].toNat:=by omega
     have e2:((t[i].toNat:Int)≤122)↔t[i].toNat≤122:=by omega
     have hgood:(if i=0 then v6 t[i] else O9 t[i])=true→∀ st':St,st'.env 0=.val (.str (bs t))→st'.env 3=.val (.int .i64 (IntKind.i64.wrap ((i:Int)+1))) →
      ∃ x',(x'≤t.length∧a1j (t.take x')=true)∧t.length - x' < t.length - i∧Le st' ⟨u0 [(0,.val (.str (bs t))),(3,.val (.int .i64 (x':Int)))],u4 []⟩:=fun hg st' q1 q2=>by
      refine ⟨i+1,⟨by omega,by rw [hstep,hg]⟩,by omega,Le.mk _ _ ?_ ?_⟩
      · simp [q1,q2];exact wrap_i64 (by omega) (by omega)
      · simp
     by_cases hs:97≤t[i].toNat∧t[i].toNat≤122
     · simp [b6,f6,h1,e1,e2,hs.1,hs.2]
       refine hgood ?_ _ ?_ ?_
       · simp [v6,O9,hs]
       · simp
       · simp
     · by_cases h2:97≤t[i].toNat
       · have h3:¬ t[i].toNat≤122:=fun h=>hs ⟨h2,h⟩
         have hlow:v6 t[i]=false:=by simp [v6];omega
         by_cases h0:i=0
         · simp [b6,f6,h1,e1,e2,h2,h3,(eq_true h0:(i=0)=True)]
           exact hls.trans (U4 (by rw [if_pos h0];exact hlow))
         · simp [b6,f6,h1,e1,e2,h2,h3,h0]
           refine d7 rfl rfl (.inl rfl) (a14 t[i]) ?_
           cases hd:u3 t[i] with
           | true=>
            simp [h0]
            refine hgood ?_ _ ?_ ?_
            · simp [h0,O9,hd]
            · simp
            · simp
           | false=>
            have e3:((t[i].toNat:Int)=45)↔t[i].toNat=45:=by omega
            have e4:((t[i].toNat:Int)=43)↔t[i].toNat=43:=by omega
            have e5:((t[i].toNat:Int)=46)↔t[i].toNat=46:=by omega
            by_cases h4:t[i].toNat=45
            · simp [b6,f6,h1,h0,e3,e4,e5,h4]
              refine hgood ?_ _ ?_ ?_
              · simp [h0,O9,h4]
              · simp
              · simp
            · by_cases h5:t[i].toNat=43
              · simp [b6,f6,h1,h0,e3,e4,e5,h4,h5]
                refine hgood ?_ _ ?_ ?_
                · simp [h0,O9,h5]
                · simp
                · simp
              · by_cases h6:t[i].toNat=46
                · simp [b6,f6,h1,h0,e3,e4,e5,h4,h5,h6]
                  refine hgood ?_ _ ?_ ?_
                  · simp [h0,O9,h6]
                  · simp
                  · simp
                · simp [b6,f6,h1,h0,e3,e4,e5,h4,h5,h6]
                  exact hls.trans (U4 (by rw [if_neg h0];simp [O9,hlow,hd,h4,h5,h6]))
       · skip
         have hlow:v6 t[i]=false:=by simp [v6];omega
         by_cases h0:i=0
         · simp [b6,f6,h1,e1,e2,h2,(eq_true h0:(i=0)=True)]
           exact hls.trans (U4 (by rw [if_pos h0];exact hlow))
         · simp [b6,f6,h1,e1,e2,h2,h0]
           refine d7 rfl rfl (.inl rfl) (a14 t[i]) ?_
           cases hd:u3 t[i] with
           | true=>
            simp [h0]
            refine hgood ?_ _ ?_ ?_
            · simp [h0,O9,hd]
            · simp
            · simp
           | false=>
            have e3:((t[i].toNat:Int)=45)↔t[i].toNat=45:=by omega
            have e4:((t[i].toNat:Int)=43)↔t[i].toNat=43:=by omega
            have e5:((t[i].toNat:Int)=46)↔t[i].toNat=46:=by omega
            by_cases h4:t[i].toNat=45
            · simp [b6,f6,h1,h0,e3,e4,e5,h4]
              refine hgood ?_ _ ?_ ?_
              · simp [h0,O9,h4]
              · simp
              · simp
            · by_cases h5:t[i].toNat=43
              · simp [b6,f6,h1,h0,e3,e4,e5,h4,h5]
                refine hgood ?_ _ ?_ ?_
                · simp [h0,O9,h5]
                · simp
                · simp
              · by_cases h6:t[i].toNat=46
                · simp [b6,f6,h1,h0,e3,e4,e5,h4,h5,h6]
                  refine hgood ?_ _ ?_ ?_
                  · simp [h0,O9,h6]
                  · simp
                  · simp
                · simp [b6,f6,h1,h0,e3,e4,e5,h4,h5,h6]
                  exact hls.trans (U4 (by rw [if_neg h0];simp [O9,hlow,hd,h4,h5,h6]))
   · have e:i=t.length:=by omega
     subst e
     simp [b6]
     simp [N9,hlen]
     simpa using hall.symm
theorem b0f (last:Bool) (t:Tx) (i:Nat) (h:i < t.length):N6 last (t.drop i)=if !(v6 t[i] || u3 t[i]) && (last || !decide (t[i].toNat=45∨t[i].toNat=46)) then false else N6 (!(v6 t[i] || u3 t[i])) (t.drop (i+1)):=by
 rw [List.drop_eq_getElem_cons h];rfl
theorem c0z (t:Tx) (ht:t.length < 1099511627776):f7 Tryz.prog 314 [.val (tx t)] (.ret (.val (.bool (Y6 t))) []) []:=by
 refine f9 mixed ok314 rfl (fun _=>rfl) ?_
 unfold ir314
 rw [b9]
 simp [d9,j4,l0,b7,d8,tx]
 refine l4 (X:=Nat×Bool) (fun x=>⟨u0 [(0,.val (.str (bs t))),(3,.val (.bool x.2)),(4,.val (.int .i64 x.1))],u4 []⟩) (fun x=>x.1≤t.length∧Y6 t=N6 x.2 (t.drop x.1)) (fun x=>t.length - x.1) (0,true) (Le.mk _ _ ?_ ?_) ?_ ?_
 · simp [upd]
 · simp
 · simp [Y6]
 · rintro ⟨i,last⟩ ⟨hi,hinv⟩
   simp only at hi hinv
   simp [b6,f6]
   refine i7 (fun h1=>?_) (fun h1=>?_)
   · rw [b0f last t i h1] at hinv
     have e1:((97:Int)≤(t[i].toNat:Int))↔97≤t[i].toNat:=by omega
     have e2:((t[i].toNat:Int)≤122)↔t[i].toNat≤122:=by omega
     have e3:((t[i].toNat:Int)=45)↔t[i].toNat=45:=by omega
     have e5:((t[i].toNat:Int)=46)↔t[i].toNat=46:=by omega
     have hgood:∀ (l:Bool),Y6 t=N6 l (t.drop (i+1))→∀ st':St,st'.env 0=.val (.str (bs t))→st'.env 3=.val (.bool l)→st'.env 4=.val (.int .i64 (IntKind.i64.wrap ((i:Int)+1))) →
      ∃ x':Nat×Bool,(x'.1≤t.length∧Y6 t=N6 x'.2 (t.drop x'.1))∧t.length - x'.1 < t.length - i∧Le st' ⟨u0 [(0,.val (.str (bs t))),(3,.val (.bool x'.2)),(4,.val (.int .i64 (x'.1:Int)))],u4 []⟩:=fun l hl st' q1 q2 q3=>by
      refine ⟨(i+1,l),⟨by simp only;omega,hl⟩,by simp only;omega,Le.mk _ _ ?_ ?_⟩
      · simp [q1,q2,q3];exact wrap_i64 (by omega) (by omega)
      · simp
     by_cases hs:97≤t[i].toNat∧t[i].toNat≤122
     · have hlow:v6 t[i]=true:=by simp [v6,hs]
       simp [b6,f6,h1,e1,e2,hs.1,hs.2]
       refine hgood false (by rw [hinv];simp [hlow]) _ ?_ ?_ ?_<;>simp
     · have hlow:v6 t[i]=false:=by simp [v6];omega
       by_cases h2:97≤t[i].toNat
       · have h3:¬ t[i].toNat≤122:=fun h=>hs ⟨h2,h⟩
         simp [b6,f6,h1,e1,e2,h2,h3]
         refine d7 rfl rfl (.inl rfl) (a14 t[i]) ?_
         cases hd:u3 t[i] with
         | true=>
          simp
          refine hgood false (by rw [hinv];simp [hlow,hd]) _ ?_ ?_ ?_<;>simp
         | false=>
          cases last with
          | true=>
           simp
           rw [hinv];simp [hlow,hd]
          | false=>
           by_cases h4:t[i].toNat=45
           · simp [b6,f6,h1,e3,e5,h4]
             refine hgood true (by rw [hinv];simp [hlow,hd,h4]) _ ?_ ?_ ?_<;>simp
           · by_cases h6:t[i].toNat=46
             · simp [b6,f6,h1,e3,e5,h4,h6]
               refine hgood true (by rw [hinv];simp [hlow,hd,h6]) _ ?_ ?_ ?_<;>simp
             · simp [b6,f6,h1,e3,e5,h4,h6]
               rw [hinv];simp [hlow,hd,h4,h6]
       · skip
         simp [b6,f6,h1,e1,e2,h2]
         refine d7 rfl rfl (.inl rfl) (a14 t[i]) ?_
         cases hd:u3 t[i] with
         | true=>
          simp
          refine hgood false (by rw [hinv];simp [hlow,hd]) _ ?_ ?_ ?_<;>simp
         | false=>
          cases last with
          | true=>
           simp
           rw [hinv];simp [hlow,hd]
          | false=>
           by_cases h4:t[i].toNat=45
           · simp [b6,f6,h1,e3,e5,h4]
             refine hgood true (by rw [hinv];simp [hlow,hd,h4]) _ ?_ ?_ ?_<;>simp
           · by_cases h6:t[i].toNat=46
             · simp [b6,f6,h1,e3,e5,h4,h6]
               refine hgood true (by rw [hinv];simp [hlow,hd,h6]) _ ?_ ?_ ?_<;>simp
             · simp [b6,f6,h1,e3,e5,h4,h6]
               rw [hinv];simp [hlow,hd,h4,h6]
   · have e:i=t.length:=by omega
     subst e
     simp [b6]
     rw [hinv];simp [N6]
end Go.Proofs
end
section
namespace Go.Proofs
open Go.PW Go.KP
attribute [local simp] RV.cells RV.one PV.cells PV.solid PV.one w5 i6 n7 n6 RV.ofCells elems PV.killL
variable [GF]
theorem c24 (m:Nat):S6 [RV.int .u8 (48+(m:Int))]=bs [UInt8.ofNat (48+m)]:=by
 have:(48+(m:Int)).toNat=48+m:=by omega
 simp only [S6,bs,List.map,RV.byte,this]
theorem a87 (n:Nat):n≤9223372036854775807→f7 Tryz.prog 137 [.val (num n)] (.ret (.val (tx (a0o n))) []) []:=by
 induction n using Nat.strongRecOn with
 | ind n ih=>
  intro hn
  refine f9 mixed ok137 rfl (fun _=>rfl) ?_
  unfold ir137
  rw [b9]
  have g1:¬ ((n:Int)=-9223372036854775808):=by omega
  have g2:¬ ((n:Int) < 0):=by omega
  by_cases h:n < 10
  · have g3:(n:Int) < 10:=by omega
    have g4:IntKind.i64.wrap (48+(n:Int))=48+(n:Int):=wrap_i64 (by omega) (by omega)
    have g5:IntKind.u8.wrap (48+(n:Int))=48+(n:Int):=a9a (by omega) (by omega)
    simp [d9,j4,l0,b7,d8,num,g1,g2,g3,g4,g5,RV.isU8]
    rw [Y1 h]
    rw [c24];rfl
  · have g3:¬ ((n:Int) < 10):=by omega
    have g6:(n:Int).tdiv 10=((n / 10:Nat):Int):=by rw [Int.tdiv_eq_ediv_of_nonneg (by omega)];omega
    have g7:(n:Int).tmod 10=((n % 10:Nat):Int):=by rw [Int.tmod_eq_emod_of_nonneg (by omega)];omega
    have hih:=ih (n / 10) (by omega) (by omega)
    rw [a1q h]
    have hl:=c15 (n / 10)
    have ha:n / 10≤922337203685477580:=by omega
    generalize n / 10=a at *
    have hb:n % 10 < 10:=Nat.mod_lt _ (by omega)
    generalize n % 10=b at *
    have g8:IntKind.i64.wrap (a:Int)=(a:Int):=wrap_i64 (by omega) (by omega)
    have g4:IntKind.i64.wrap (48+(b:Int))=48+(b:Int):=wrap_i64 (by omega) (by omega)
    have g5:IntKind.u8.wrap (48+(b:Int))=48+(b:Int):=a9a (by omega) (by omega)
    simp [d9,j4,l0,b7,d8,num,g1,g2,g3,g6,g7,g8,g4,g5,RV.isU8]
    refine B0 rfl rfl (.inl rfl) hih ?_
    simp [d9,j4,l0,b7,d8,num,g1,g2,g3,g6,g7,g8,g4,g5,RV.isU8,tx]
    rw [c24]
    simp [b6,l1]
    omega
def a7o:Option Int→PV
 | some n=>.tup [.val (num n),.val (.bool true)]
 | none=>.tup [.val (num 0),.val (.bool false)]
theorem b2y (u:Tx) (neg:Bool) (st:St) (h0:st.env 0=.val (tx u)) (h4:st.env 4=.val (num (if neg then -1 else 1))) (h5:st.env 5=.val (num 0)) (hu:u.length≤18) :
 EC Tryz.prog ir268_from5 st (K:=⟨Y9 [.t 2,.t 3] (a7o (if u.all u3 then some (if neg then - (N5 u:Int) else (N5 u:Int)) else none))⟩):=by
 unfold ir268_from5
 simp only [z7,H0,A0,G8,A1,t8,z8,G9,o0,C0,I4,I5,k9,r8,r9,m8,A2,t7,n5,G7,z6,t6,s8,E9,F0,a27,a28,Option.getD_some,Option.getD_none,D5,u7,q7,E6,p9,o8,E8,o9,E7,E5,E4,I9,x8,p7,E2,x6,p6,E1,D3,E3,x7,D8,o7,x5,D9,J1,J0,D4,D6,p5,D7,x9,p8,C3,o2,D2,D1,D0,I6,x3,o4,C8,x1,o3,C7,C1,C9,x2,C5,o1,w9,C6,I8,I7,C2,w8,o6,C4,x4,o5,L2,K9,M3,L3,L7,L5,L4,M2,L6,L8,L9,M0,M1,A6,A5,A4,O5,O6,u2,H1,u9,F4,y4,M6,u1,U8,P0,M8,Q3,Q5,Q4,U9,V0,K2,K4,K3,K5,K6,Q0,y6,P9,F5,F6,F7,y7,a3d,G4,z1,U6,U7,J2,O7,O8,Option.map_some,Option.map_none,F8,y8,y0,q8,F2,F3,J4,J3,R0,Q9,K8,G5,G6,K7,Q6,Q7,J6,r6,J7,q9,P4,G3,G2,n0,Q2,Q8,J9,P6,P8,P7,y5,B7,B9,B8,l5,Q1,V2,V1,P1,J8,a0g,P2,r7,G0,G1,y9,F9,l9,w6,l7,w7,l6,M5,R1,R2,A7,A8,H3,H2,F1]
 refine l4 (X:=Nat) (fun i=>⟨u0 [(0,.val (tx u)),(4,.val (num (if neg then -1 else 1))),(5,.val (num (N5 (u.take i)))),(6,.val (num i))],u4 []⟩) (fun i=>i≤u.length∧(u.take i).all u3=true) (fun i=>u.length - i) 0 (Le.mk _ _ ?_ ?_) ?_ ?_
 · simp [upd,h0,h4,h5,num,N5]
 · simp
 · simp
 · rintro i ⟨hi,hall⟩
   have hlv:N5 (u.take i) < 1000000000000000000:=by
    have h1:=a9e _ hall
    have h2:(u.take i).length≤18:=by simp;omega
    exact Nat.lt_of_lt_of_le h1 (Nat.le_trans (Nat.pow_le_pow_right (by omega) h2) (by decide))
   simp [tx,num,b6,f6]
   refine i7 (fun h1=>?_) (fun h1=>?_)
   · have e1:((u[i].toNat:Int) < 48)↔u[i].toNat < 48:=by omega
     have e1':((48:Int)≤(u[i].toNat:Int))↔48≤u[i].toNat:=by omega
     have e2:((57:Int) < (u[i].toNat:Int))↔57 < u[i].toNat:=by omega
     by_cases h2:u[i].toNat < 48
     · have h2':¬ 48≤u[i].toNat:=by omega
       simp [tx,num,b6,f6,h1,e1,e1',e2,h2,h2']
       rw [if_neg (fun hA=>by have:=hA u[i] (List.getElem_mem h1);simp [u3] at this;omega)];rfl
     · have h2':48≤u[i].toNat:=by omega
       by_cases h3:57 < u[i].toNat
       · simp [tx,num,b6,f6,h1,e1,e1',e2,h2,h2',h3]
         rw [if_neg (fun hA=>by have:=hA u[i] (List.getElem_mem h1);simp [u3] at this;omega)];rfl
       · simp [tx,num,b6,f6,h1,e1,e1',e2,h2,h2',h3]
         have hlv2:N5 (u.take i) < 100000000000000000:=by
          have h1':=a9e _ hall
          have h2':(u.take i).length≤17:=by simp;omega
          exact Nat.lt_of_lt_of_le h1' (Nat.le_trans (Nat.pow_le_pow_right (by omega) h2') (by decide))
         have hw:IntKind.i64.wrap (IntKind.i64.wrap (IntKind.i64.wrap ((N5 (u.take i):Int)*10)+IntKind.i64.wrap (u[i].toNat:Int)) - 48)=((N5 (u.take (i+1)):Nat):Int):=by
          rw [b1s u i 0 h1,a5e,a2f _ _ _ h1]
          rw [wrap_i64 (x:=(N5 (u.take i):Int)*10) (by omega) (by omega),wrap_i64 (x:=(u[i].toNat:Int)) (by omega) (by omega),wrap_i64 (x:=(N5 (u.take i):Int)*10+(u[i].toNat:Int)) (by omega) (by omega),wrap_i64 (by omega) (by omega)]
          omega
         refine LoopNext.mk (i+1) ⟨by omega,?_⟩ (by omega) (Le.mk _ _ ?_ ?_)
         · rw [O0 _ _ _ h1,hall];simp [u3];omega
         · simp [hw,tx,num];exact wrap_i64 (by omega) (by omega)
         · simp
   · have e:i=u.length:=by omega
     subst e
     rw [List.take_length] at hall hlv
     simp [tx,num,b6]
     have hA:∀ x,x∈u→u3 x=true:=by simpa using hall
     have w1:IntKind.i64.wrap (-(N5 u:Int))=-(N5 u:Int):=wrap_i64 (by omega) (by omega)
     have w2:IntKind.i64.wrap (N5 u:Int)=(N5 u:Int):=wrap_i64 (by omega) (by omega)
     cases neg with
     | true=>simp [a7o,num,eq_true hA,w1]
     | false=>simp [a7o,num,eq_true hA,w2]
theorem a3o (u:Tx) (neg:Bool) (st:St) (h0:st.env 0=.val (tx u)) (h4:st.env 4=.val (num (if neg then -1 else 1))) (hu:u.length < 1099511627776) :
 EC Tryz.prog ir268_from3 st (K:=⟨Y9 [.t 2,.t 3] (a7o (Y5 neg u))⟩):=by
 unfold ir268_from3
 by_cases a1:u.length=0
 · have:u=[]:=List.eq_nil_of_length_eq_zero a1
   subst this
   simp [h0,tx,b6]
   rw [show Y5 neg []=none by simp [Y5,a02]];rfl
 · have a1':¬ ((u.length:Int)=0):=by omega
   by_cases a2:18 < u.length
   · have a2':(18:Int) < u.length:=by omega
     have a2'':¬ (u.length:Int)≤18:=by omega
     simp [h0,tx,b6,a1,a1',a2',a2'']
     rw [show Y5 neg u=none by simp [Y5,a02,a2]];rfl
   · have hpos:0 < u.length:=by omega
     have a2':¬ (18:Int) < u.length:=by omega
     have a2'':(u.length:Int)≤18:=by omega
     have e0:u[0]?.getD 0=u.getD 0 0:=by simp
     have e1:((u[0].toNat:Int)=48)↔u[0].toNat=48:=by omega
     have e2:((1:Int) < (u.length:Int))↔1 < u.length:=by omega
     have hg:u[0]?.getD 0=u[0]:=by simp [List.getElem?_eq_getElem hpos]
     have hgo:a02 neg u=false→∀ st':St,st'.env 0=.val (tx u)→st'.env 4=.val (num (if neg then -1 else 1))→st'.env 5=.val (num 0)→EC Tryz.prog ir268_from5 st' (K:=⟨Y9 [.t 2,.t 3] (a7o (Y5 neg u))⟩):=fun hb st' q1 q2 q3=>by
      rw [show Y5 neg u=(if u.all u3 then some (if neg then - (N5 u:Int) else (N5 u:Int)) else none) by unfold Y5;rw [hb];rfl]
      exact b2y u neg st' q1 q2 q3 (by omega)
     by_cases a3:u[0].toNat=48
     · by_cases a4:1 < u.length
       · simp [h0,tx,b6,a1,a1',a2',a2'',f6,hpos,e1,e2,a3,a4]
         rw [show Y5 neg u=none by simp [Y5,a02,hg,a3,a4]];rfl
       · cases neg with
         | true=>
          simp [h0,h4,num,tx,b6,a1,a1',a2',a2'',f6,hpos,e1,e2,a3,a4]
          rw [show Y5 true u=none by simp [Y5,a02,hg,a3]];rfl
         | false=>
          simp [h0,h4,num,tx,b6,a1,a1',a2',a2'',f6,hpos,e1,e2,a3,a4]
          refine hgo ?_ _ ?_ ?_ ?_
          · simp [a02,hg,a3,a4,a1,a2]
          · simp [h0,tx]
          · simp [h4,num]
          · simp [num]
     · simp [h0,tx,b6,a1,a1',a2',a2'',f6,hpos,e1,e2,a3]
       refine hgo ?_ _ ?_ ?_ ?_
       · simp [a02,hg,a3,a1,a2]
       · simp [h0,tx]
       · simp [h4,num]
       · simp [num]
theorem b52 (t:Tx) (ht:t.length < 1099511627776):f7 Tryz.prog 268 [.val (tx t)] (.ret (a7o (P5 t)) []) []:=by
 refine f9 mixed ok268 rfl (fun ι=>by cases P5 t<;>rfl) ?_
 unfold ir268
 rw [b9]
 cases t with
 | nil=>
  simp [d9,j4,l0,b7,d8,tx,b6]
  rw [show P5 []=Y5 false [] by simp [P5,Y5,a02]]
  refine a3o [] false _ ?_ ?_ (by simp)<;>simp [tx,num]
 | cons c r=>
  have hr:r.length < 1099511627776:=by simp at ht;omega
  have e0:(0:Int) < ((r.length:Int)+1):=by omega
  by_cases hc:c=45
  · have e1:((c.toNat:Int)=45):=by rw [hc];rfl
    simp [d9,j4,l0,b7,d8,tx,b6,f6,e0,e1,B5]
    rw [show P5 (c :: r)=Y5 true r by simp [P5,hc]]
    refine a3o r true _ ?_ ?_ hr<;>simp [tx,num]
  · have e1:¬ ((c.toNat:Int)=45):=fun h=>hc (UInt8.toNat_inj.1 (by simp;omega))
    simp [d9,j4,l0,b7,d8,tx,b6,f6,e0,e1]
    rw [show P5 (c :: r)=Y5 false (c :: r) by simp [P5,hc]]
    refine a3o (c :: r) false _ ?_ ?_ ht<;>simp [tx,num]
theorem c0y (u:LUrl) (hs:u.Small):f7 Tryz.prog 264 [.val (R7 u)] (.ret (.val (tx (b85 u))) []) []:=by
 refine f9 mixed ok264 rfl (fun _=>rfl) ?_
 unfold ir264
 rw [b9]
 obtain ⟨s1,s2,s3,s4,s5,s6,s7⟩:=hs
 have e1:(⟨#[58,47,47]⟩:ByteArray)=bs [58,47,47]:=rfl
 have e2:(⟨#[58]⟩:ByteArray)=bs [58]:=rfl
 simp [d9,j4,l0,b7,d8,R7,tx,num,b6,e1,e2,l1]
 refine ⟨by omega,by omega,i7 (fun h=>?_) (fun h=>?_)⟩
 · obtain ⟨p,hp⟩:=Int.eq_ofNat_of_zero_le (show 0≤u.port by omega)
   simp [R7,tx,num,b6,e1,e2,l1]
   refine d7 rfl rfl (.inl rfl) (by rw [hp];exact a87 p (by omega)) ?_
   have hl:=a1y 18 p (by omega)
   simp [R7,tx,num,b6,e1,e2,l1]
   refine ⟨by omega,by omega,?_⟩
   simp [b85,Z8,hp,show 0 < p by omega]
 · simp [R7,tx,num,b6,e1,e2,l1]
   simp [b85,Z8,h]
theorem a9m (u:LUrl) (hs:u.Small) (pre:Tx) (hp:pre.length < 4398046511104) (st:St) (h1:st.env 1=.ptr 1 0) (h3:st.env 3=.val (tx pre)) (hm:st.mem 1=.box [.val (tx u.scheme),.val (tx u.user),.val (tx u.host),.val (num u.port),.val (tx u.path),.val (tx u.query),.val (tx u.frag),.val (.bool u.hasQ),.val (.bool u.hasF)]) :
 EC Tryz.prog ir257_from4 st (K:=⟨Y9 [.t 2] (.val (tx (pre++(u.host++Z8 u.port++u.path)++(if u.hasQ then 63 :: u.query else [])++(if u.hasF then 35 :: u.frag else []))))⟩):=by
 unfold ir257_from4
 obtain ⟨s1,s2,s3,s4,s5,s6,s7⟩:=hs
 have e3:(⟨#[]⟩:ByteArray)=bs []:=rfl
 have e5:(⟨#[63]⟩:ByteArray)=bs [63]:=rfl
 have e6:(⟨#[35]⟩:ByteArray)=bs [35]:=rfl
 simp [h1,h3,hm,tx,num,b6,e3,e5,e6,l1]
 refine B0 rfl rfl (.inl rfl) (c0y ⟨[],[],u.host,u.port,[],[],[],false,false⟩ ⟨by simp,by simp,s3,by simp,by simp,by simp,s7⟩) ?_
 simp [h1,h3,hm,tx,num,b6,e3,e5,e6,l1,B5,b85]
 have hpl:=b6w u.port s7
 have htk:List.take (u.host.length+(Z8 u.port).length) (u.host++Z8 u.port)=u.host++Z8 u.port:=List.take_of_length_le (by simp)
 refine ⟨by omega,by omega,?_⟩
 cases hq:u.hasQ with
 | true=>
  refine i7 (fun _=>?_) (fun h=>(h (by simp)).elim)
  simp [h1,h3,hm,tx,num,b6,e3,e5,e6,l1,htk]
  refine ⟨by omega,by omega,?_⟩
  cases hf:u.hasF with
  | true=>
   refine i7 (fun _=>?_) (fun h=>(h (by simp)).elim)
   simp [h1,h3,hm,tx,num,b6,e3,e5,e6,l1,htk]
   omega
  | false=>
   refine i7 (fun h=>by simp at h) (fun _=>?_)
   simp [h1,h3,hm,tx,num,b6,e3,e5,e6,l1,htk]
 | false=>
  refine i7 (fun h=>by simp at h) (fun _=>?_)
  simp [h1,h3,hm,tx,num,b6,e3,e5,e6,l1,htk]
  cases hf:u.hasF with
  | true=>
   refine i7 (fun _=>?_) (fun h=>(h (by simp)).elim)
   simp [h1,h3,hm,tx,num,b6,e3,e5,e6,l1,htk]
   omega
  | false=>
   refine i7 (fun h=>by simp at h) (fun _=>?_)
   simp [h1,h3,hm,tx,num,b6,e3,e5,e6,l1,htk]
theorem b2c (u:LUrl) (hs:u.Small):f7 Tryz.prog 257 [.val (R7 u)] (.ret (.val (tx (V7 u))) []) []:=by
 refine f9 mixed ok257 rfl (fun _=>rfl) ?_
 unfold ir257
 rw [b9]
 have hs':=hs
 obtain ⟨s1,s2,s3,s4,s5,s6,s7⟩:=hs
 have e1:(⟨#[58,47,47]⟩:ByteArray)=bs [58,47,47]:=rfl
 have e2:(⟨#[58]⟩:ByteArray)=bs [58]:=rfl
 have e3:(⟨#[]⟩:ByteArray)=bs []:=rfl
 have e4:(⟨#[64]⟩:ByteArray)=bs [64]:=rfl
 have e5:(⟨#[63]⟩:ByteArray)=bs [63]:=rfl
 have e6:(⟨#[35]⟩:ByteArray)=bs [35]:=rfl
 simp [d9,j4,l0,b7,d8,R7,tx,num,b6,e1,e2,l1]
 refine d7 rfl rfl (.inl rfl) (a7b u.scheme) ?_
 by_cases hw:W5 u.scheme=true
 · simp [R7,tx,num,b6,e1,e2,e3,e4,l1,u5,hw]
   refine ⟨by omega,i7 (fun hu=>?_) (fun hu=>?_)⟩
   · simp [R7,tx,num,b6,e1,e2,e3,e4,l1,u5]
     refine ⟨by omega,by omega,?_⟩
     have e:V7 u=(u.scheme++[58,47,47]++(u.user++[64]))++(u.host++Z8 u.port++u.path)++(if u.hasQ then 63 :: u.query else [])++(if u.hasF then 35 :: u.frag else []):=by simp [V7,hw,hu]
     have:=a9m u hs' (u.scheme++[58,47,47]++(u.user++[64])) (by simp;omega)
     rw [← e] at this
     refine this _ ?_ ?_ ?_<;>simp [tx,num]
   · have hu:u.user=[]:=Classical.byContradiction hu
     have e:V7 u=(u.scheme++[58,47,47])++(u.host++Z8 u.port++u.path)++(if u.hasQ then 63 :: u.query else [])++(if u.hasF then 35 :: u.frag else []):=by simp [V7,hw,hu]
     have:=a9m u hs' (u.scheme++[58,47,47]) (by simp;omega)
     rw [← e] at this
     simp [R7,tx,num,b6,e1,e2,e3,e4,l1,u5]
     refine this _ ?_ ?_ ?_<;>simp [tx,num]
 · simp [R7,tx,num,b6,e1,e2,l1,hw]
   refine ⟨by omega,by omega,?_⟩
   simp [V7,hw]
end Go.Proofs
end
section
namespace Go.Proofs
open Go.PW Go.KP
attribute [local simp] RV.cells RV.one PV.cells PV.solid PV.one w5 i6 n7 n6 RV.ofCells elems PV.killL
variable [GF]
theorem b31 (u:LUrl) (hs:u.Small) (hw:W5 u.scheme=true) (st:St) (h1:st.env 1=.ptr 1 0) (hm:st.mem 1=.box [.val (tx u.scheme),.val (tx u.user),.val (tx u.host),.val (num u.port),.val (tx u.path),.val (tx u.query),.val (tx u.frag),.val (.bool u.hasQ),.val (.bool u.hasF)]) :
 EC Tryz.prog ir267_from3 st (K:=⟨Y9 [.t 2] (.val (.bool (T0 u.user [47,63,35,64] && Y6 u.host && decide (0≤u.port∧u.port≤65535) && decide (u.port≠V3 u.scheme) && decide (0 < u.path.length) && decide ((u.path.getD 0 0).toNat=47))))⟩):=by
 unfold ir267_from3
 obtain ⟨s1,s2,s3,s4,s5,s6,s7⟩:=hs
 have e3:(⟨#[47,63,35,64]⟩:ByteArray)=bs [47,63,35,64]:=rfl
 simp [h1,hm,tx,num,b6,e3]
 refine B0 rfl rfl (.inl rfl) (a5h u.user [47,63,35,64] s2 (by simp)) ?_
 cases a1:T0 u.user [47,63,35,64] with
 | false=>simp [h1,hm,tx,num,b6]
 | true=>
  simp [h1,hm,tx,num,b6]
  refine B0 rfl rfl (.inl rfl) (c0z u.host s3) ?_
  cases a2:Y6 u.host with
  | false=>simp [h1,hm,tx,num,b6]
  | true=>
   simp [h1,hm,tx,num,b6]
   refine B0 rfl rfl (.inl rfl) (a7c .i64 u.port 0 65535) ?_
   cases a3:decide (0≤u.port∧u.port≤65535) with
   | false=>simp [h1,hm,tx,num,b6]
   | true=>
    simp [h1,hm,tx,num,b6]
    refine B0 rfl rfl (.inl rfl) (b0y u.scheme) ?_
    by_cases a4:u.port=V3 u.scheme
    · simp [h1,hm,tx,num,b6,a4]
    · simp [h1,hm,tx,num,b6,a4]
      by_cases a5:0 < u.path.length
      · have a5':u.path≠[]:=fun e=>by simp [e] at a5
        have e7:((u.path[0].toNat:Int)=47)↔u.path[0].toNat=47:=by omega
        simp [h1,hm,tx,num,b6,f6,a4,a5,a5',e7,List.getElem?_eq_getElem a5]
        by_cases h47:u.path[0].toNat=47
        · simp [h47]
        · have h47':((u.path[0].toNat:Int) == 47)=false:=by simp;omega
          rw [h47'];simp [h47]
      · simp [h1,hm,tx,num,b6,a4,a5]
def a3f (u:LUrl):Bool:=
 if W5 u.scheme then T0 u.user [47,63,35,64] && Y6 u.host && decide (0≤u.port∧u.port≤65535) && decide (u.port≠V3 u.scheme) && decide (0 < u.path.length) && decide ((u.path.getD 0 0).toNat=47)
 else decide (u.user=[]) && decide (u.host=[]) && decide (u.port=0) && !u.hasQ && !u.hasF
theorem b32 (u:LUrl) (hs:u.Small) (st:St) (h1:st.env 1=.ptr 1 0) (hm:st.mem 1=.box [.val (tx u.scheme),.val (tx u.user),.val (tx u.host),.val (num u.port),.val (tx u.path),.val (tx u.query),.val (tx u.frag),.val (.bool u.hasQ),.val (.bool u.hasF)]) :
 EC Tryz.prog ir267_from2 st (K:=⟨Y9 [.t 2] (.val (.bool (a3f u)))⟩):=by
 unfold ir267_from2
 have e3:(⟨#[]⟩:ByteArray)=bs []:=rfl
 simp [h1,hm,tx,num,b6]
 refine d7 rfl rfl (.inl rfl) (a7b u.scheme) ?_
 cases hw:W5 u.scheme with
 | true=>
  simp [h1,hm,tx,num,b6]
  rw [show a3f u=_ by unfold a3f;rw [hw,if_pos rfl]]
  refine b31 u hs hw _ ?_ ?_<;>simp [h1,hm,tx,num]
 | false=>
  rw [show a3f u=_ by unfold a3f;rw [hw,if_neg (by simp)]]
  by_cases a1:u.user=[]
  · by_cases a2:u.host=[]
    · by_cases a3:u.port=0
      · cases a4:u.hasQ with
        | true=>simp [h1,hm,tx,num,b6,e3,u5,a1,a2,a3,a4]
        | false=>simp [h1,hm,tx,num,b6,e3,u5,a1,a2,a3,a4]
      · simp [h1,hm,tx,num,b6,e3,u5,a1,a2,a3]
    · simp [h1,hm,tx,num,b6,e3,u5,a1,a2]
  · simp [h1,hm,tx,num,b6,e3,u5,a1]
structure UO (st:St) (u:LUrl):Prop where
 e1:st.env 1=.ptr 1 0
 m1:st.mem 1=.box [.val (tx u.scheme),.val (tx u.user),.val (tx u.host),.val (num u.port),.val (tx u.path),.val (tx u.query),.val (tx u.frag),.val (.bool u.hasQ),.val (.bool u.hasF)]
section
variable {Ks:Kx (St→Prop)} {kx:Kx (RV→St→Prop)} {st:St} {u:LUrl} {b:Bool}
def b9j (u:LUrl):Bool:=decide (100 < (V7 u).length)
theorem okops43 (hs:u.Small) (h:UO st u) (hb:st.env 45=.val (.bool b)) (hK:∀ st',UO st' u→st'.env 50=.val (.bool (b || b9j u))→Ks.k st'):EO Tryz.prog ir267_ops1_43 st (Ks:=Ks) (kx:=kx):=by
 unfold ir267_ops1_43
 obtain ⟨e1,m1⟩:=h
 cases b with
 | true=>
  simp [hb]
  refine hK _ ⟨?_,?_⟩ ?_<;>simp [e1,m1]
 | false=>
  simp [hb,e1,m1]
  refine d7 rfl rfl (.inl rfl) (b2c u hs) ?_
  have e:((100:Int) < ((V7 u).length:Int))↔100 < (V7 u).length:=by omega
  simp [hb,e1,m1,tx,b6]
  refine hK _ ⟨?_,?_⟩ ?_<;>simp [e1,m1,b9j,e,tx,num]
def b9k (u:LUrl):Bool:=!T0 u.frag [] || b9j u
theorem okops37 (hs:u.Small) (h:UO st u) (hb:st.env 39=.val (.bool b)) (hK:∀ st',UO st' u→st'.env 50=.val (.bool (b || b9k u))→Ks.k st'):EO Tryz.prog ir267_ops1_37 st (Ks:=Ks) (kx:=kx):=by
 unfold ir267_ops1_37
 have e3:(⟨#[]⟩:ByteArray)=bs []:=rfl
 cases b with
 | true=>
  simp [hb]
  refine okops43 (b:=true) hs ⟨?_,?_⟩ ?_ (fun st' q1 q2=>hK st' q1 ?_)
  · simp [h.e1]
  · simp [h.m1]
  · simp
  · simpa using q2
 | false=>
  simp [hb,h.e1,h.m1,e3,tx]
  refine d7 rfl rfl (.inl rfl) (a5h u.frag [] hs.2.2.2.2.2.1 (by simp)) ?_
  simp [hb,e3,tx]
  refine okops43 (b:=!T0 u.frag []) hs ⟨?_,?_⟩ ?_ (fun st' q1 q2=>hK st' q1 ?_)
  · simp [h.e1]
  · simp [h.m1]
  · simp
  · simpa [b9k] using q2
def b9l (u:LUrl):Bool:=!T0 u.query [35] || b9k u
theorem okops31 (hs:u.Small) (h:UO st u) (hb:st.env 33=.val (.bool b)) (hK:∀ st',UO st' u→st'.env 50=.val (.bool (b || b9l u))→Ks.k st'):EO Tryz.prog ir267_ops1_31 st (Ks:=Ks) (kx:=kx):=by
 unfold ir267_ops1_31
 have e3:(⟨#[35]⟩:ByteArray)=bs [35]:=rfl
 cases b with
 | true=>
  simp [hb]
  refine okops37 (b:=true) hs ⟨?_,?_⟩ ?_ (fun st' q1 q2=>hK st' q1 ?_)
  · simp [h.e1]
  · simp [h.m1]
  · simp
  · simpa using q2
 | false=>
  simp [hb,h.e1,h.m1,e3,tx]
  refine d7 rfl rfl (.inl rfl) (a5h u.query [35] hs.2.2.2.2.1 (by simp)) ?_
  simp [hb,e3,tx]
  refine okops37 (b:=!T0 u.query [35]) hs ⟨?_,?_⟩ ?_ (fun st' q1 q2=>hK st' q1 ?_)
  · simp [h.e1]
  · simp [h.m1]
  · simp
  · simpa [b9l] using q2
def b9m (u:LUrl):Bool:=!T0 u.path [63,35] || b9l u
theorem okops25 (hs:u.Small) (h:UO st u) (hb:st.env 27=.val (.bool b)) (hK:∀ st',UO st' u→st'.env 50=.val (.bool (b || b9m u))→Ks.k st'):EO Tryz.prog ir267_ops1_25 st (Ks:=Ks) (kx:=kx):=by
 unfold ir267_ops1_25
 have e3:(⟨#[63,35]⟩:ByteArray)=bs [63,35]:=rfl
 cases b with
 | true=>
  simp [hb]
  refine okops31 (b:=true) hs ⟨?_,?_⟩ ?_ (fun st' q1 q2=>hK st' q1 ?_)
  · simp [h.e1]
  · simp [h.m1]
  · simp
  · simpa using q2
 | false=>
  simp [hb,h.e1,h.m1,e3,tx]
  refine d7 rfl rfl (.inl rfl) (a5h u.path [63,35] hs.2.2.2.1 (by simp)) ?_
  simp [hb,e3,tx]
  refine okops31 (b:=!T0 u.path [63,35]) hs ⟨?_,?_⟩ ?_ (fun st' q1 q2=>hK st' q1 ?_)
  · simp [h.e1]
  · simp [h.m1]
  · simp
  · simpa [b9m] using q2
def b04 (u:LUrl):Bool:=(!u.hasF && !decide (u.frag=[])) || b9m u
theorem okops15 (hs:u.Small) (h:UO st u) (hb:st.env 17=.val (.bool b)) (hK:∀ st',UO st' u→st'.env 50=.val (.bool (b || b04 u))→Ks.k st'):EO Tryz.prog ir267_ops1_15 st (Ks:=Ks) (kx:=kx):=by
 unfold ir267_ops1_15
 have e3:(⟨#[]⟩:ByteArray)=bs []:=rfl
 cases b with
 | true=>
  simp [hb]
  refine okops25 (b:=true) hs ⟨?_,?_⟩ ?_ (fun st' q1 q2=>hK st' q1 ?_)
  · simp [h.e1]
  · simp [h.m1]
  · simp
  · simpa using q2
 | false=>
  cases hf:u.hasF with
  | true=>
   simp [hb,h.e1,h.m1,e3,tx,hf]
   refine okops25 (b:=false) hs ⟨?_,?_⟩ ?_ (fun st' q1 q2=>hK st' q1 ?_)
   · simp [h.e1]
   · simp [h.m1]
   · simp
   · simpa [b04,hf] using q2
  | false=>
   simp [hb,h.e1,h.m1,e3,tx,hf,u5]
   refine okops25 (b:=!decide (u.frag=[])) hs ⟨?_,?_⟩ ?_ (fun st' q1 q2=>hK st' q1 ?_)
   · simp [h.e1]
   · simp [h.m1]
   · simp
   · simpa [b04,hf] using q2
end
theorem b9g (u:LUrl) (hs:u.Small):f7 Tryz.prog 267 [.val (R7 u)] (.ret (.val (.bool (H9 u))) []) []:=by
 refine f9 mixed ok267 rfl (fun _=>rfl) ?_
 unfold ir267
 rw [b9]
 have hlu:H9 u=(N9 u.scheme && (u.hasQ || decide (u.query=[])) && (u.hasF || decide (u.frag=[])) && T0 u.path [63,35] && T0 u.query [35] && T0 u.frag [] && decide ((V7 u).length≤100) && a3f u):=rfl
 have hend:∀ st':St,UO st' u→∀ b,st'.env 50=.val (.bool (b || b04 u))→b=(!N9 u.scheme || (!u.hasQ && !decide (u.query=[]))) →
  CD (st'.env 50) (A:=⟨EC Tryz.prog (.seq (.reg [⟨some 2,.mov (.k (.val (.bool false))),none⟩]) .ret) st' (K:=⟨fun e st'=>ET e st' (Ks:=⟨fun st'=>EC Tryz.prog ir267_from2 st' (K:=⟨Y9 [.t 2] (.val (.bool (H9 u)))⟩)⟩) (K:=⟨Y9 [.t 2] (.val (.bool (H9 u)))⟩)⟩)⟩)
   (B:=⟨EC Tryz.prog .skip st' (K:=⟨fun e st'=>ET e st' (Ks:=⟨fun st'=>EC Tryz.prog ir267_from2 st' (K:=⟨Y9 [.t 2] (.val (.bool (H9 u)))⟩)⟩) (K:=⟨Y9 [.t 2] (.val (.bool (H9 u)))⟩)⟩)⟩):=by
  intro st' h b hb hbb
  have hlu2:H9 u=(!(b || b04 u) && a3f u):=by
   rw [hlu,hbb]
   unfold b04 b9m b9l b9k b9j
   have e:decide ((V7 u).length≤100)=!decide (100 < (V7 u).length):=by
    by_cases h:(V7 u).length≤100
    · have h':¬ 100 < (V7 u).length:=by omega
      simp [h,h']
    · have h':100 < (V7 u).length:=by omega
      simp [h,h']
   rw [e]
   cases N9 u.scheme<;>cases u.hasQ<;>cases u.hasF<;>cases decide (u.query=[])<;>cases decide (u.frag=[])<;>cases T0 u.path [63,35]<;>cases T0 u.query [35]<;>cases T0 u.frag []<;>cases decide (100 < (V7 u).length)<;>rfl
  rw [hb,hlu2]
  cases (b || b04 u) with
  | true=>simp
  | false=>
   simp only [z7,H0,A0,G8,A1,t8,z8,G9,o0,C0,I4,I5,k9,r8,r9,m8,A2,t7,n5,G7,z6,t6,s8,E9,F0,a27,a28,Option.getD_some,Option.getD_none,D5,u7,q7,E6,p9,o8,E8,o9,E7,E5,E4,I9,x8,p7,E2,x6,p6,E1,D3,E3,x7,D8,o7,x5,D9,J1,J0,D4,D6,p5,D7,x9,p8,C3,o2,D2,D1,D0,I6,x3,o4,C8,x1,o3,C7,C1,C9,x2,C5,o1,w9,C6,I8,I7,C2,w8,o6,C4,x4,o5,L2,K9,M3,L3,L7,L5,L4,M2,L6,L8,L9,M0,M1,A6,A5,A4,O5,O6,u2,H1,u9,F4,y4,M6,u1,U8,P0,M8,Q3,Q5,Q4,U9,V0,K2,K4,K3,K5,K6,Q0,y6,P9,F5,F6,F7,y7,a3d,G4,z1,U6,U7,J2,O7,O8,Option.map_some,Option.map_none,F8,y8,y0,q8,F2,F3,J4,J3,R0,Q9,K8,G5,G6,K7,Q6,Q7,J6,r6,J7,q9,P4,G3,G2,n0,Q2,Q8,J9,P6,P8,P7,y5,B7,B9,B8,l5,Q1,V2,V1,P1,J8,a0g,P2,r7,G0,G1,y9,F9,l9,w6,l7,w7,l6,M5,R1,R2,A7,A8,H3,H2,F1]
   refine i7 (fun h=>by cases h) (fun _=>?_)
   simp only [z7,H0,A0,G8,A1,t8,z8,G9,o0,C0,I4,I5,k9,r8,r9,m8,A2,t7,n5,G7,z6,t6,s8,E9,F0,a27,a28,Option.getD_some,Option.getD_none,D5,u7,q7,E6,p9,o8,E8,o9,E7,E5,E4,I9,x8,p7,E2,x6,p6,E1,D3,E3,x7,D8,o7,x5,D9,J1,J0,D4,D6,p5,D7,x9,p8,C3,o2,D2,D1,D0,I6,x3,o4,C8,x1,o3,C7,C1,C9,x2,C5,o1,w9,C6,I8,I7,C2,w8,o6,C4,x4,o5,L2,K9,M3,L3,L7,L5,L4,M2,L6,L8,L9,M0,M1,A6,A5,A4,O5,O6,u2,H1,u9,F4,y4,M6,u1,U8,P0,M8,Q3,Q5,Q4,U9,V0,K2,K4,K3,K5,K6,Q0,y6,P9,F5,F6,F7,y7,a3d,G4,z1,U6,U7,J2,O7,O8,Option.map_some,Option.map_none,F8,y8,y0,q8,F2,F3,J4,J3,R0,Q9,K8,G5,G6,K7,Q6,Q7,J6,r6,J7,q9,P4,G3,G2,n0,Q2,Q8,J9,P6,P8,P7,y5,B7,B9,B8,l5,Q1,V2,V1,P1,J8,a0g,P2,r7,G0,G1,y9,F9,l9,w6,l7,w7,l6,M5,R1,R2,A7,A8,H3,H2,F1]
   exact b32 u hs st' h.e1 h.m1
 simp [d9,j4,l0,b7,d8,R7,tx,num,b6]
 refine d7 rfl rfl (.inl rfl) (b51 u.scheme hs.1) ?_
 have e3:(⟨#[]⟩:ByteArray)=bs []:=rfl
 cases b1:N9 u.scheme with
 | false=>
  simp [tx,num,b6]
  refine okops15 (b:=true) hs ⟨?_,?_⟩ ?_ (fun st' q1 q2=>hend st' q1 true q2 (by simp [b1]))
  · simp
  · simp [tx,num]
  · simp
 | true=>
  cases hq:u.hasQ with
  | true=>
   simp [tx,num,b6,hq]
   refine okops15 (b:=false) hs ⟨?_,?_⟩ ?_ (fun st' q1 q2=>hend st' q1 false q2 (by simp [b1,hq]))
   · simp
   · simp [tx,num,hq]
   · simp
  | false=>
   simp [tx,num,b6,hq,e3,u5]
   refine okops15 (b:=!decide (u.query=[])) hs ⟨?_,?_⟩ ?_ (fun st' q1 q2=>hend st' q1 _ q2 (by simp [b1,hq]))
   · simp
   · simp [tx,num,hq]
   · simp
end Go.Proofs
end
section
namespace Go.Proofs
open Go.PW Go.KP
attribute [local simp] RV.cells RV.one PV.cells PV.solid PV.one w5 i6 n7 n6 RV.ofCells elems PV.killL
variable [GF]
abbrev prs (r:LUrl×Bool):Kx (PExit→St→Prop):=⟨Y9 [.c 2 true 9,.t 3] (a2u r)⟩
structure UP (st:St) (u:LUrl) (r:Tx):Prop where
 e2:st.env 2=.ptr 2 0
 e5:st.env 5=.ptr 5 0
 e6:st.env 6=.val (tx r)
 m2:st.mem 2=.box (b8 LUrl.zero)
 m5:st.mem 5=.box (b8 u)
theorem a1g (t:Tx) (k:Nat):List.drop k (List.take t.length t)=t.drop k:=by rw [List.take_length]
theorem a3l (u:LUrl) (hs:u.Small) (r:Tx) (st:St) (h:UP st u r):EC Tryz.prog ir200_from18 st (K:=prs (u,H9 u)):=by
 unfold ir200_from18
 obtain ⟨e2,e5,e6,m2,m5⟩:=h
 simp [e2,e5,m2,m5,b8,i6,tx,num]
 refine B0 rfl rfl (.inl rfl) (b9g u hs) ?_
 simp [e2,e5,m2,m5,b8,i6,tx,num]
 refine a4a (id:=2) ?_ ?_ ?_
 · simp [e2]
 · simp [e2,b8,tx,num]
 · simp
theorem V9 (st:St) (e2:st.env 2=.ptr 2 0) (m2:st.mem 2=.box (b8 LUrl.zero)) (e3:st.env 3=.val (.bool false)):Y9 [.c 2 true 9,.t 3] (a2u (LUrl.zero,false)) .ret st:=
 a4a e2 m2 e3
def I1 (u:LUrl) (r:Tx):LUrl×Bool:=match Z0 u.scheme r with
 | none=>(LUrl.zero,false)
 | some p=>({ u with port:=p },H9 { u with port:=p })
theorem b7d {t:Tx} {n:Int} (h:P5 t=some n):n≤1000000000000000000:=by
 obtain ⟨_,_,u,h1,h2,h3,h4⟩:=a3q h
 have:=a9e u h2
 have h5:N5 u < 10 ^ 18:=Nat.lt_of_lt_of_le this (Nat.pow_le_pow_right (by omega) h3)
 have h6:(10:Nat) ^ 18=1000000000000000000:=by decide
 rcases h4 with h4 | h4<;>omega
theorem b2t (u:LUrl) (hs:u.Small) (hp:u.port=0) (r:Tx) (hr:r.length < 1099511627776) (st:St) (h:UP st u r) (e4:st.env 4=.val (num (l8 r 58))):EC Tryz.prog ir200_from17 st (K:=prs (I1 u r)):=by
 unfold ir200_from17
 obtain ⟨e2,e5,e6,m2,m5⟩:=h
 have hle:=W1 r 58
 by_cases hc:58∈r
 · have hlt:=O4.2 hc
   have g1:((l8 r 58:Nat):Int) < (r.length:Int):=by omega
   have g2:IntKind.i64.wrap ((l8 r 58:Nat)+1:Int)=((l8 r 58+1:Nat):Int):=by rw [wrap_i64 (by omega) (by omega)];omega
   have g3:l8 r 58+1≤r.length:=by omega
   have g4:(0:Int)≤((l8 r 58:Nat):Int)+1:=by omega
   simp [e2,e4,e5,e6,m2,m5,tx,num,b6,g1,g2,g3,g4,B5,a1g,hlt]
   have hn:=b52 (k8 r 58) (by have:=T1 r 58;omega)
   cases hnum:P5 (k8 r 58) with
   | none=>
    rw [hnum] at hn
    refine V4 rfl rfl (.inl rfl) hn ?_
    rw [show I1 u r=(LUrl.zero,false) by simp [I1,Z0,hc,hnum]]
    simp [e2,e4,e5,e6,m2,m5,tx,num,b8]
    refine V9 _ ?_ ?_ ?_
    · simp [e2]
    · simp [b8,LUrl.zero,tx,num,bs]
    · simp
   | some n=>
    have hn1:=b7d hnum
    rw [hnum] at hn
    refine V4 rfl rfl (.inl rfl) hn ?_
    by_cases hin:1≤n∧n≤65535
    · simp [e2,e4,e5,e6,m2,m5,tx,num,b8]
      refine d7 rfl rfl (.inl rfl) (a7c .i64 n 1 65535) ?_
      simp [e2,e4,e5,e6,m2,m5,tx,num,b8,hin]
      refine d7 rfl rfl (.inl rfl) (b0y u.scheme) ?_
      by_cases hu:n=V3 u.scheme
      · have e:I1 u r=(u,H9 u):=by
         have hl:Z0 u.scheme r=some 0:=by
          simp only [Z0,hc,hnum,hin,if_true,and_self]
          rw [if_pos hu]
         have:({ u with port:=0 }:LUrl)=u:=by rw [← hp]
         simp only [I1,hl,this]
        rw [e]
        simp [e2,e4,e5,e6,m2,m5,tx,num,b8,hu]
        refine a3l u hs r _ ⟨?_,?_,?_,?_,?_⟩<;>simp [e2,e5,e6,m2,m5,b8,tx,num]
      · have e:I1 u r=({ u with port:=n },H9 { u with port:=n }):=by
         simp only [I1,Z0,hc,hnum,hin,if_true,and_self,hu,if_false]
        rw [e]
        simp [e2,e4,e5,e6,m2,m5,tx,num,b8,hu]
        refine a3l { u with port:=n } ?_ r _ ⟨?_,?_,?_,?_,?_⟩
        · exact ⟨hs.1,hs.2.1,hs.2.2.1,hs.2.2.2.1,hs.2.2.2.2.1,hs.2.2.2.2.2.1,by show n≤_;omega⟩
        all_goals simp [e2,e5,e6,m2,m5,b8,tx,num]
    · rw [show I1 u r=(LUrl.zero,false) by simp only [I1,Z0,hc,hnum,hin,if_true,if_false]]
      simp [e2,e4,e5,e6,m2,m5,tx,num,b8]
      refine d7 rfl rfl (.inl rfl) (a7c .i64 n 1 65535) ?_
      have hd:decide (1≤n∧n≤65535)=false:=decide_eq_false hin
      rw [hd]
      simp [e2,e4,e5,e6,m2,m5,tx,num,b8]
      refine V9 _ ?_ ?_ ?_
      · simp [e2]
      · simp [b8,LUrl.zero,tx,num,bs]
      · simp
 · have hge:l8 r 58=r.length:=by have:=mt O4.1 hc;omega
   have e:I1 u r=(u,H9 u):=by
    simp only [I1,Z0,hc,if_false]
    have:({ u with port:=0 }:LUrl)=u:=by rw [← hp]
    rw [this]
   rw [e]
   simp [e2,e4,e5,e6,m2,m5,tx,num,b6,hge]
   refine a3l u hs r _ ⟨?_,?_,?_,?_,?_⟩<;>simp [e2,e5,e6,m2,m5,b8,tx,num]
theorem a60 (sc us pa qu fr:Tx) (hq hf:Bool) (h1:sc.length < 1099511627776) (h2:us.length < 1099511627776) (h3:pa.length < 1099511627776) (h4:qu.length < 1099511627776) (h5:fr.length < 1099511627776) (r:Tx) (hr:r.length < 1099511627776) (st:St)
 (h:UP st ⟨sc,us,[],0,pa,qu,fr,hq,hf⟩ r):EC Tryz.prog ir200_from15 st (K:=prs (I1 ⟨sc,us,B2 (f8 r 58),0,pa,qu,fr,hq,hf⟩ r)):=by
 unfold ir200_from15
 obtain ⟨e2,e5,e6,m2,m5⟩:=h
 have hle:=W1 r 58
 simp [e2,e5,e6,m2,m5,tx,num,b6]
 refine d7 rfl rfl (.inl rfl) (Y2 r 58 hr) ?_
 simp [e2,e5,e6,m2,m5,tx,num,b6,hle,B5]
 refine d7 rfl rfl (.inl rfl) (b0z (f8 r 58) (by have:=B4 r 58;omega)) ?_
 simp [e2,e5,e6,m2,m5,tx,num,b6,b8]
 refine b2t ⟨sc,us,B2 (f8 r 58),0,pa,qu,fr,hq,hf⟩ ?_ rfl r hr _ ⟨?_,?_,?_,?_,?_⟩ ?_
 · refine ⟨h1,h2,?_,h3,h4,h5,by show (0:Int)≤_;omega⟩
   have:=B4 r 58
   simp [B2];omega
 all_goals simp [e2,e5,e6,m2,m5,b8,tx,num]
theorem a61 (sc pa qu fr:Tx) (hq hf:Bool) (h1:sc.length < 1099511627776) (h3:pa.length < 1099511627776) (h4:qu.length < 1099511627776) (h5:fr.length < 1099511627776) (r:Tx) (hr:r.length < 1099511627776) (st:St)
 (h:UP st ⟨sc,[],[],0,pa,qu,fr,hq,hf⟩ r):EC Tryz.prog ir200_from14 st (K:=prs (I1 ⟨sc,if 64∈r then f8 r 64 else [],B2 (f8 (if 64∈r then k8 r 64 else r) 58),0,pa,qu,fr,hq,hf⟩ (if 64∈r then k8 r 64 else r))):=by
 unfold ir200_from14
 obtain ⟨e2,e5,e6,m2,m5⟩:=h
 have hle:=W1 r 64
 simp [e2,e5,e6,m2,m5,tx,num,b6]
 refine d7 rfl rfl (.inl rfl) (Y2 r 64 hr) ?_
 by_cases hc:64∈r
 · have hlt:=O4.2 hc
   have g2:IntKind.i64.wrap ((l8 r 64:Nat)+1:Int)=((l8 r 64+1:Nat):Int):=by rw [wrap_i64 (by omega) (by omega)];omega
   have g3:l8 r 64+1≤r.length:=by omega
   have g4:(0:Int)≤((l8 r 64:Nat):Int)+1:=by omega
   simp [e2,e5,e6,m2,m5,tx,num,b6,b8,hlt,hle,g2,g3,g4,B5,a1g]
   have e:(if 64∈r then k8 r 64 else r)=k8 r 64:=if_pos hc
   rw [if_pos hc,e]
   refine a60 sc (f8 r 64) pa qu fr hq hf h1 (by have:=B4 r 64;omega) h3 h4 h5 (k8 r 64) (by have:=T1 r 64;omega) _ ⟨?_,?_,?_,?_,?_⟩<;>simp [e2,e5,e6,m2,m5,b8,tx,num,f8,k8]
 · have hge:l8 r 64=r.length:=by have:=mt O4.1 hc;omega
   simp [e2,e5,e6,m2,m5,tx,num,b6,hge]
   have e:(if 64∈r then k8 r 64 else r)=r:=if_neg hc
   rw [if_neg hc,e]
   refine a60 sc [] pa qu fr hq hf h1 (by simp) h3 h4 h5 r hr _ ⟨?_,?_,?_,?_,?_⟩<;>simp [e2,e5,e6,m2,m5,b8,tx,num]
def a9c (sc pa qu fr:Tx) (hq hf:Bool) (r:Tx):LUrl×Bool:=
 I1 ⟨sc,if 64∈r then f8 r 64 else [],B2 (f8 (if 64∈r then k8 r 64 else r) 58),0,pa,qu,fr,hq,hf⟩ (if 64∈r then k8 r 64 else r)
theorem b2u (sc qu fr:Tx) (hq hf:Bool) (h1:sc.length < 1099511627776) (h4:qu.length < 1099511627776) (h5:fr.length < 1099511627776) (r:Tx) (hr:r.length < 1099511627776) (st:St)
 (h:UP st ⟨sc,[],[],0,r.drop (l8 r 47),qu,fr,hq,hf⟩ r) (e4:st.env 4=.val (num (l8 r 47))):EC Tryz.prog ir200_from12 st (K:=prs (a9c sc (if 47∈r then r.drop (l8 r 47) else [47]) qu fr hq hf (f8 r 47))):=by
 unfold ir200_from12
 obtain ⟨e2,e5,e6,m2,m5⟩:=h
 have hle:=W1 r 47
 have e3:(⟨#[]⟩:ByteArray)=bs []:=rfl
 by_cases hc:47∈r
 · have hlt:=O4.2 hc
   have hne:¬ r.drop (l8 r 47)=[]:=by
    intro e;have:=congrArg List.length e;simp at this;omega
   have hne2:¬ r.length≤l8 r 47:=by omega
   rw [if_pos hc]
   simp [e2,e4,e5,e6,m2,m5,tx,num,b6,b8,e3,u5,hne,hne2,hle,B5]
   refine a61 sc (r.drop (l8 r 47)) qu fr hq hf h1 (by simp;omega) h4 h5 (f8 r 47) (by have:=B4 r 47;omega) _ ⟨?_,?_,?_,?_,?_⟩<;>simp [e2,e5,e6,m2,m5,b8,tx,num,f8]
 · have hge:l8 r 47=r.length:=by have:=mt O4.1 hc;omega
   have e4':(⟨#[47]⟩:ByteArray)=bs [47]:=rfl
   rw [if_neg hc]
   simp [e2,e4,e5,e6,m2,m5,tx,num,b6,b8,e3,e4',u5,hge,B5]
   refine a61 sc [47] qu fr hq hf h1 (by simp) h4 h5 (f8 r 47) (by have:=B4 r 47;omega) _ ⟨?_,?_,?_,?_,?_⟩<;>simp [e2,e5,e6,m2,m5,b8,tx,num,f8,hge]
def a5b (sc qu fr:Tx) (hq hf:Bool) (r:Tx):LUrl×Bool:=a9c sc (if 47∈r then r.drop (l8 r 47) else [47]) qu fr hq hf (f8 r 47)
theorem a62 (sc qu fr:Tx) (hq hf:Bool) (h1:sc.length < 1099511627776) (h4:qu.length < 1099511627776) (h5:fr.length < 1099511627776) (r:Tx) (hr:r.length < 1099511627776) (st:St)
 (h:UP st ⟨sc,[],[],0,[],qu,fr,hq,hf⟩ r):EC Tryz.prog ir200_from10 st (K:=prs (a5b sc qu fr hq hf r)):=by
 unfold ir200_from10
 obtain ⟨e2,e5,e6,m2,m5⟩:=h
 have hle:=W1 r 47
 simp [e2,e5,e6,m2,m5,tx,num,b6]
 refine d7 rfl rfl (.inl rfl) (Y2 r 47 hr) ?_
 simp [e2,e5,e6,m2,m5,tx,num,b6,hle,B5,b8,a1g]
 refine b2u sc qu fr hq hf h1 h4 h5 r hr _ ⟨?_,?_,?_,?_,?_⟩ ?_<;>simp [e2,e5,e6,m2,m5,b8,tx,num]
theorem a8f (sc fr:Tx) (hf:Bool) (h1:sc.length < 1099511627776) (h5:fr.length < 1099511627776) (r:Tx) (hr:r.length < 1099511627776) (st:St)
 (h:UP st ⟨sc,[],[],0,[],[],fr,false,hf⟩ r):EC Tryz.prog ir200_from9 st (K:=prs (a5b sc (k8 r 63) fr (decide (63∈r)) hf (f8 r 63))):=by
 unfold ir200_from9
 obtain ⟨e2,e5,e6,m2,m5⟩:=h
 have hle:=W1 r 63
 simp [e2,e5,e6,m2,m5,tx,num,b6]
 refine d7 rfl rfl (.inl rfl) (Y2 r 63 hr) ?_
 by_cases hc:63∈r
 · have hlt:=O4.2 hc
   have g2:IntKind.i64.wrap ((l8 r 63:Nat)+1:Int)=((l8 r 63+1:Nat):Int):=by rw [wrap_i64 (by omega) (by omega)];omega
   have g3:l8 r 63+1≤r.length:=by omega
   have g4:(0:Int)≤((l8 r 63:Nat):Int)+1:=by omega
   simp [e2,e5,e6,m2,m5,tx,num,b6,b8,hlt,hle,g2,g3,g4,B5,a1g]
   rw [decide_eq_true hc]
   refine a62 sc (k8 r 63) fr true hf h1 (by have:=T1 r 63;omega) h5 (f8 r 63) (by have:=B4 r 63;omega) _ ⟨?_,?_,?_,?_,?_⟩<;>simp [e2,e5,e6,m2,m5,b8,tx,num,f8,k8]
 · have hge:l8 r 63=r.length:=by have:=mt O4.1 hc;omega
   simp [e2,e5,e6,m2,m5,tx,num,b6,hge]
   rw [decide_eq_false hc,X0 hc,a6c hc]
   refine a62 sc [] fr false hf h1 (by simp) h5 r hr _ ⟨?_,?_,?_,?_,?_⟩<;>simp [e2,e5,e6,m2,m5,b8,tx,num]
theorem b4n (sc:Tx) (h1:sc.length < 1099511627776) (r:Tx) (hr:r.length < 1099511627776) (st:St)
 (h:UP st ⟨sc,[],[],0,[],[],[],false,false⟩ r):EC Tryz.prog ir200_from8 st (K:=prs (a2x sc r)):=by
 unfold ir200_from8
 obtain ⟨e2,e5,e6,m2,m5⟩:=h
 have hle:=W1 r 35
 have e:a2x sc r=a5b sc (k8 (f8 r 35) 63) (k8 r 35) (decide (63∈f8 r 35)) (decide (35∈r)) (f8 (f8 r 35) 63):=rfl
 rw [e]
 simp [e2,e5,e6,m2,m5,tx,num,b6]
 refine d7 rfl rfl (.inl rfl) (Y2 r 35 hr) ?_
 by_cases hc:35∈r
 · have hlt:=O4.2 hc
   have g2:IntKind.i64.wrap ((l8 r 35:Nat)+1:Int)=((l8 r 35+1:Nat):Int):=by rw [wrap_i64 (by omega) (by omega)];omega
   have g3:l8 r 35+1≤r.length:=by omega
   have g4:(0:Int)≤((l8 r 35:Nat):Int)+1:=by omega
   simp [e2,e5,e6,m2,m5,tx,num,b6,b8,hlt,hle,g2,g3,g4,B5,a1g]
   rw [decide_eq_true hc]
   refine a8f sc (k8 r 35) true h1 (by have:=T1 r 35;omega) (f8 r 35) (by have:=B4 r 35;omega) _ ⟨?_,?_,?_,?_,?_⟩<;>simp [e2,e5,e6,m2,m5,b8,tx,num,f8,k8]
 · have hge:l8 r 35=r.length:=by have:=mt O4.1 hc;omega
   simp [e2,e5,e6,m2,m5,tx,num,b6,hge]
   rw [decide_eq_false hc,X0 hc,a6c hc]
   refine a8f sc [] false h1 (by simp) r hr _ ⟨?_,?_,?_,?_,?_⟩<;>simp [e2,e5,e6,m2,m5,b8,tx,num]
theorem b4o (sc:Tx) (h1:sc.length < 1099511627776) (r:Tx) (hr:r.length < 1099511627776) (st:St)
 (h:UP st ⟨sc,[],[],0,[],[],[],false,false⟩ r):EC Tryz.prog ir200_from5 st (K:=prs (if W5 sc then if r.take 2=[47,47] then a2x sc (r.drop 2) else (LUrl.zero,false) else (⟨sc,[],[],0,f8 (f8 r 35) 63,[],[],false,false⟩,H9 ⟨sc,[],[],0,f8 (f8 r 35) 63,[],[],false,false⟩))):=by
 unfold ir200_from5
 obtain ⟨e2,e5,e6,m2,m5⟩:=h
 have e7:(⟨#[47,47]⟩:ByteArray)=bs [47,47]:=rfl
 simp [e2,e5,e6,m2,m5,tx,num,b6,b8]
 refine d7 rfl rfl (.inl rfl) (a7b sc) ?_
 by_cases hw:W5 sc=true
 · rw [if_pos hw]
   by_cases h2:r.length < 2
   · have h2':(r.length:Int) < 2:=by omega
     have ht:¬ r.take 2=[47,47]:=fun e=>by have:=congrArg List.length e;simp at this;omega
     rw [if_neg ht]
     simp [e2,e5,e6,m2,m5,tx,num,b6,b8,hw,h2']
     refine V9 _ ?_ ?_ ?_
     · simp [e2]
     · simp [b8,LUrl.zero,tx,num,bs]
     · simp
   · have h2':¬ (r.length:Int) < 2:=by omega
     have h2'':(2:Int)≤r.length:=by omega
     have h2n:2≤r.length:=by omega
     by_cases ht:r.take 2=[47,47]
     · rw [if_pos ht]
       simp [e2,e5,e6,m2,m5,tx,num,b6,b8,hw,h2',h2'',h2n,e7,B5,ht,a1g]
       refine b4n sc h1 (r.drop 2) (by simp;omega) _ ⟨?_,?_,?_,?_,?_⟩<;>simp [e2,e5,e6,m2,m5,b8,tx,num]
     · rw [if_neg ht]
       simp [e2,e5,e6,m2,m5,tx,num,b6,b8,hw,h2',h2'',h2n,e7,B5,u5,ht]
       refine V9 _ ?_ ?_ ?_
       · simp [e2]
       · simp [b8,LUrl.zero,tx,num,bs]
       · simp
 · rw [if_neg hw]
   have hl1:=W1 r 35
   have hl2:=W1 (f8 r 35) 63
   have hl3:=B4 r 35
   have hl4:=B4 (f8 r 35) 63
   simp [e2,e5,e6,m2,m5,tx,num,b6,b8,hw]
   refine d7 rfl rfl (.inl rfl) (Y2 r 35 hr) ?_
   simp [e2,e5,e6,m2,m5,tx,num,b6,b8,hw,hl1,B5]
   refine d7 rfl rfl (.inl rfl) (Y2 (f8 r 35) 63 (by omega)) ?_
   have hl2':l8 (f8 r 35) 63≤l8 r 35∧l8 (f8 r 35) 63≤r.length:=by
    refine ⟨?_,by omega⟩
    have:(f8 r 35).length≤l8 r 35:=by unfold f8;simp;omega
    omega
   have hl2i:((l8 (f8 r 35) 63:Nat):Int)≤(min (l8 r 35) r.length:Nat):=by omega
   simp [e2,e5,e6,m2,m5,tx,num,b6,b8,hw,hl1,hl2',B5,i6]
   refine B0 rfl rfl (.inl rfl) (b9g ⟨sc,[],[],0,f8 (f8 r 35) 63,[],[],false,false⟩ ⟨h1,by simp,by simp,by show (f8 (f8 r 35) 63).length < _;omega,by simp,by simp,by show (0:Int)≤_;omega⟩) ?_
   simp [e2,e5,e6,m2,m5,tx,num,b6,b8,hw,hl1,B5,i6]
   refine a4a (id:=2) ?_ ?_ ?_
   · simp [e2]
   · simp [b8,tx,num,f8]
   · simp
theorem b8a (t:Tx) (ht:t.length < 1099511627776):f7 Tryz.prog 200 [.val (tx t)] (.ret (a2u (A9 t)) []) []:=by
 refine f9 mixed ok200 rfl (fun _=>rfl) ?_
 unfold ir200
 rw [b9]
 have hle:=W1 t 58
 simp [d9,j4,l0,b7,d8,tx,num,b6]
 refine d7 rfl rfl (.inl rfl) (Y2 t 58 ht) ?_
 by_cases hc:58∈t
 · have hlt:=O4.2 hc
   have hne:¬ ((l8 t 58:Nat):Int)=(t.length:Int):=by omega
   have hne':¬ l8 t 58=t.length:=by omega
   have g2:IntKind.i64.wrap ((l8 t 58:Nat)+1:Int)=((l8 t 58+1:Nat):Int):=by rw [wrap_i64 (by omega) (by omega)];omega
   have g3:l8 t 58+1≤t.length:=by omega
   have g4:(0:Int)≤((l8 t 58:Nat):Int)+1:=by omega
   simp [tx,num,b6,hlt,hle,hne,hne',B5]
   refine d7 rfl rfl (.inl rfl) (b0z (f8 t 58) (by have:=B4 t 58;omega)) ?_
   simp [tx,num,b6,hlt,hle,hne,hne',g2,g3,g4,B5,a1g]
   rw [show A9 t=(if W5 (B2 (f8 t 58)) then if (k8 t 58).take 2=[47,47] then a2x (B2 (f8 t 58)) ((k8 t 58).drop 2) else (LUrl.zero,false) else (⟨B2 (f8 t 58),[],[],0,f8 (f8 (k8 t 58) 35) 63,[],[],false,false⟩,H9 ⟨B2 (f8 t 58),[],[],0,f8 (f8 (k8 t 58) 35) 63,[],[],false,false⟩)) by unfold A9;rw [if_pos hc]]
   refine b4o (B2 (f8 t 58)) (by have:=B4 t 58;simp [B2];omega) (k8 t 58) (by have:=T1 t 58;omega) _ ⟨?_,?_,?_,?_,?_⟩<;>simp [b8,tx,num,LUrl.zero,bs,k8]
 · have hge:l8 t 58=t.length:=by have:=mt O4.1 hc;omega
   rw [show A9 t=(LUrl.zero,false) by unfold A9;rw [if_neg hc]]
   simp [tx,num,b6,hge]
   refine V9 _ ?_ ?_ ?_
   · simp
   · simp [b8,LUrl.zero,tx,num,bs]
   · simp
end Go.Proofs
end
section
namespace Go.Proofs
open Go.PW Go.KP
attribute [local simp] RV.cells RV.one PV.cells PV.solid PV.one w5 i6 n7 n6 RV.ofCells elems PV.killL
variable [GF]
structure TO (st:St) (x:LTarget) (u:LUrl):Prop where
 e1:st.env 1=.ptr 1 0
 e3:st.env 3=.ptr 3 0
 m1:st.mem 1=.box [.val (tx x.url),.val (num x.prio),.val (num x.weight)]
 m3:st.mem 3=.box (b8 u)
section
variable {Ks:Kx (St→Prop)} {st:St} {x:LTarget} {u:LUrl} {b:Bool}
end
def b9x (x:LPeer):List PV:=[.val (tx x.target.url),.val (num x.target.prio),.val (num x.target.weight),.val (num x.fails),.val (num x.retry),.val (.bool x.gone)]
structure PO (st:St) (l:List LPeer) (i:Nat) (x:LPeer):Prop where
 e0:st.env 0=.val (rvPeers l)
 e3:st.env 3=.val (num i)
 e4:st.env 4=.ptr 4 0
 m4:st.mem 4=.box (b9x x)
section
variable {Ks:Kx (St→Prop)} {kx:Kx (RV→St→Prop)} {st:St} {l:List LPeer} {i:Nat} {x:LPeer} {b:Bool}
end
end Go.Proofs
end
section
namespace Go.Proofs
open Go.PW Go.KP
variable [GF]
theorem a8u (c:UInt8):f7 Tryz.prog 234 [.val (rvb c)] (.ret (.val (.bool (X1 c))) []) []:=by
 refine f9 mixed ok234 rfl (fun _=>rfl) ?_
 unfold ir234
 rw [b9]
 have e1:((97:Int)≤c.toNat)↔97≤c.toNat:=by omega
 have e2:((c.toNat:Int)≤122)↔c.toNat≤122:=by omega
 have e3:((65:Int)≤c.toNat)↔65≤c.toNat:=by omega
 have e4:((c.toNat:Int)≤90)↔c.toNat≤90:=by omega
 have e5:((c.toNat:Int)=95)↔c.toNat=95:=by omega
 by_cases h1:97≤c.toNat<;>by_cases h2:c.toNat≤122<;>by_cases h3:65≤c.toNat<;>by_cases h4:c.toNat≤90<;>by_cases h5:c.toNat=95<;>first | (exfalso;omega) | simp [d9,j4,l0,b7,d8,rvb,X1,v6,isUp,e1,e2,e3,e4,e5,h1,h2,h3,h4,h5]
theorem a2e {c:UInt8} (h:X1 c=true):a0z c=true:=by simp [a0z,h]
theorem c00 (t:Tx) (ht:t.length < 1099511627776):f7 Tryz.prog 173 [.val (tx t)] (.ret (.val (.bool (a0d t))) []) []:=by
 refine f9 mixed ok173 rfl (fun _=>rfl) ?_
 unfold ir173
 rw [b9]
 by_cases h1:t.length < 1
 · have:a0d t=false:=by unfold a0d;rw [decide_eq_false (by omega)];rfl
   have h1':(t.length:Int) < 1:=by omega
   simp [d9,j4,l0,b7,d8,tx,b6,h1',this]
 by_cases h2:12 < t.length
 · have h1':¬ (t.length:Int) < 1:=by omega
   have h2':(12:Int) < t.length:=by omega
   have:a0d t=false:=by unfold a0d;rw [decide_eq_false (by omega)];rfl
   simp [d9,j4,l0,b7,d8,tx,b6,h1',h2',this]
 have h1':¬ (t.length:Int) < 1:=by omega
 have h2':¬ (12:Int) < t.length:=by omega
 have h0:0 < t.length:=by omega
 have hw:a0d t=R5 X1 a0z t:=by unfold a0d;rw [decide_eq_true (by omega)];rfl
 simp [d9,j4,l0,b7,d8,tx,b6,h1',h2',f6,h0]
 refine d7 rfl rfl (.inl rfl) (a8u t[0]) ?_
 cases hl:X1 t[0] with
 | false=>
  have:a0d t=false:=by rw [hw];exact Z1 t 0 h0 (by rw [if_pos rfl];exact hl)
  simp [this]
 | true=>
  have hst:=a0s (p:=X1) (q:=a0z) (fun _ h=>a2e h) t 0 h0
  simp
  refine l4 (X:=Nat) (fun i=>⟨u0 [(0,.val (.str (bs t))),(3,.val (.int .i64 i))],u4 []⟩) (fun i=>1≤i∧i≤t.length∧R5 X1 a0z (t.take i)=true) (fun i=>t.length - i) 1 (Le.mk _ _ ?_ ?_) ?_ ?_
  · simp [upd]
  · simp
  · refine ⟨Nat.le_refl _,h0,?_⟩
    rw [hst,if_pos rfl,hl];simp [R5]
  · rintro i ⟨hi1,hi,hall⟩
    have hi0:i≠0:=by omega
    simp [b6,f6]
    refine i7 (fun h3=>?_) (fun h3=>?_)
    · have hstep:=a0s (p:=X1) (q:=a0z) (fun _ h=>a2e h) t i h3
      rw [hall,Bool.true_and,if_neg hi0] at hstep
      have U4:=Z1 (p:=X1) (q:=a0z) t i h3
      rw [if_neg hi0] at U4
      simp [b6,f6,h3]
      refine d7 rfl rfl (.inl rfl) (a8u t[i]) ?_
      cases hlt:X1 t[i] with
      | true=>
       simp
       refine LoopNext.mk (i+1) ⟨by omega,by omega,by rw [hstep];exact a2e hlt⟩ (by omega) (Le.mk _ _ ?_ ?_)
       · simp;exact wrap_i64 (by omega) (by omega)
       · simp
      | false=>
       simp [b6,f6,h3]
       refine d7 rfl rfl (.inl rfl) (a14 t[i]) ?_
       cases hd:u3 t[i] with
       | true=>
        simp
        refine LoopNext.mk (i+1) ⟨by omega,by omega,by rw [hstep];simp [a0z,hd]⟩ (by omega) (Le.mk _ _ ?_ ?_)
        · simp;exact wrap_i64 (by omega) (by omega)
        · simp
       | false=>
        have:a0d t=false:=by rw [hw];exact U4 (by simp [a0z,hd,hlt])
        simp [this]
    · have e:i=t.length:=by omega
      subst e
      rw [List.take_length] at hall
      simp [hw,hall]
end Go.Proofs
end
