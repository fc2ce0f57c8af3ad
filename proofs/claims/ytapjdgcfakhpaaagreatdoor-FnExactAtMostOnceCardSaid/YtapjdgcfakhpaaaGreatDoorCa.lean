/- Ca: merged out of KSa, KSb, KSc, KSd, KSe, KSr. -/
import Derived.Test.YtapjdgcfakhpaaaGreatDoorBa
import Derived.Test.YtapjdgcfakhpaaaGreatDoorAc
set_option linter.unusedSectionVars false
set_option linter.unusedSimpArgs false
set_option linter.unusedVariables false
set_option maxRecDepth 100000
section
namespace Go.Proofs
open Go.PW Go.KP
attribute [local simp] RV.cells RV.one PV.cells PV.solid PV.one x6 j2 J4 I7 RV.ofCells elems PV.killL
theorem mixed:Tryz.prog.follows .mixedOrders=true:=by kernel_rfl
variable [GF]
theorem U6 (k:IntKind) (a lo hi:Int):f8 Tryz.prog 108 [.val (.int k a),.val (.int k lo),.val (.int k hi)] (.ret (.val (.bool (decide (lo≤a∧a≤hi)))) []) []:=by
 refine i7 mixed ok108 rfl (fun _=>rfl) ?_
 unfold ir108
 rw [b7]
 by_cases h:lo≤a
 · simp [i6,j3,j9,b8,f6,h]
 · simp [i6,j3,j9,b8,f6,h]
theorem a1k (t:Tx) (c:UInt8) (ht:t.length < 1099511627776):f8 Tryz.prog 265 [.val (tx t),.val (rvb c)] (.ret (.val (num (L3 t c))) []) []:=by
 refine i7 mixed ok265 rfl (fun _=>rfl) ?_
 unfold ir265
 rw [b7]
 simp only [B0,I1,B2,H9,B3,x1,B1,I0,p9,D1,J5,J6,l5,w5,w6,o0,B4,w9,p6,H8,A9,w8,w7,G0,G1,a1i,a1j,Option.getD_some,Option.getD_none,E7,x7,u7,F7,u6,u0,F9,u1,F8,F6,F5,K2,z8,u4,F3,z6,u3,F2,E5,F4,z7,F0,t8,z1,F1,K4,K3,E6,E8,u2,E9,A0,u5,D4,q8,E4,E3,E2,J7,y8,s8,D9,y6,q9,D8,D2,E1,y7,D6,q7,y5,D7,J9,J8,D3,y4,t7,D5,y9,t6,M3,M2,N4,M4,M8,M6,M5,N3,M7,M9,N0,N1,N2,B7,B6,B5,O5,O6,C7,I2,x8,G5,A2,N6,x2,T2,P0,N7,Q2,Q4,Q3,T3,T4,L5,L7,L6,L8,L9,P9,A4,P8,G6,G7,G8,A5,a1o,H5,A8,T0,T1,K5,O7,O8,Option.map_some,Option.map_none,G9,A6,A1,u9,G3,G4,K7,K6,Q9,Q8,M1,H6,H7,M0,Q5,Q6,K8,v7,K9,v6,P4,H4,H3,p5,Q1,Q7,L4,P5,P7,P6,A3,C8,D0,C9,l9,Q0,T7,T6,P1,L2,X5,P2,v8,H1,H2,A7,H0,n0,x9,m8,y0,m0,N5,R0,R1,B8,B9,I4,I3,G2,i6,j3,j9,b8,f6,tx,rvb,num]
 refine l3 (X:=Nat) (fun i=>⟨x5 [(0,.val (.str (bs t))),(1,.val (.int .u8 c.toNat)),(5,.val (.int .i64 i))],x4 []⟩) (fun i=>i≤t.length∧∀ k,k < i→t.getD k 0≠c) (fun i=>t.length - i) 0 (Le.mk _ _ ?_ ?_) ?_ ?_
 · simp [upd]
 · simp
 · simp
 · rintro i ⟨hi,hne⟩
   simp [b9,j6,u8_eq]
   refine j1 (fun h1=>?_) (fun h1=>?_)
   · simp [b9,j6,u8_eq,h1]
     refine j1 (fun h2=>?_) (fun h2=>?_)
     · simp
       rw [b7z t c i hi hne (.inr (by rw [a3y _ _ _ h1];exact h2))];rfl
     · simp
       refine LoopNext.mk (i+1) ⟨by omega,fun k hk=>?_⟩ (by omega) (Le.mk _ _ ?_ ?_)
       · by_cases e:k=i
         · subst e;simpa [List.getElem?_eq_getElem h1] using h2
         · simpa using hne k (by omega)
       · simp [C7,x8];rw [wrap_i64 (by omega) (by omega)]
       · simp
   · have e:i=t.length:=by omega
     simp [b9]
     rw [b7z t c i hi hne (.inl e),e];rfl
theorem a6z (t:Tx):f8 Tryz.prog 256 [.val (tx t)] (.ret (.val (.bool (a0f t))) []) []:=by
 refine i7 mixed ok256 rfl (fun _=>rfl) ?_
 unfold ir256
 rw [b7]
 have e1:(⟨#[104,116,116,112]⟩:ByteArray)=bs a5u:=rfl
 have e2:(⟨#[104,116,116,112,115]⟩:ByteArray)=bs a7w:=rfl
 by_cases h:t=a5u
 · simp [i6,j3,j9,b8,f6,tx,e1,e2,I6,a0f,h]
 · by_cases h':t=a7w
   · subst h'
     simp [i6,j3,j9,b8,f6,tx,e1,e2,I6,a0f,show ¬ a7w=a5u by decide]
   · simp [i6,j3,j9,b8,f6,tx,e1,e2,I6,a0f,h,h']
theorem b3e (t:Tx):f8 Tryz.prog 269 [.val (tx t)] (.ret (.val (num (a0h t))) []) []:=by
 refine i7 mixed ok269 rfl (fun _=>rfl) ?_
 unfold ir269
 rw [b7]
 have e1:(⟨#[104,116,116,112]⟩:ByteArray)=bs a5u:=rfl
 by_cases h:t=a5u
 · simp [i6,j3,j9,b8,f6,tx,e1,I6,a0h,h,num]
 · simp [i6,j3,j9,b8,f6,tx,e1,I6,a0h,h,num]
theorem a4d (c:UInt8):f8 Tryz.prog 235 [.val (rvb c)] (.ret (.val (.bool (O0 c))) []) []:=by
 refine i7 mixed ok235 rfl (fun _=>rfl) ?_
 unfold ir235
 rw [b7]
 have e1:((48:Int)≤c.toNat)↔48≤c.toNat:=by omega
 have e2:((c.toNat:Int)≤57)↔c.toNat≤57:=by omega
 by_cases h:48≤c.toNat
 · simp [i6,j3,j9,b8,f6,rvb,O0,h,e1,e2]
 · simp [i6,j3,j9,b8,f6,rvb,O0,h,e1,e2]
theorem c0c {c:UInt8} (h1:65≤c.toNat) (h2:c.toNat≤90):(c.toNat:Int)+32=((c+32).toNat:Int):=by
 rw [UInt8.toNat_add]
 simp
 omega
theorem b3g (t:Tx) (ht:t.length < 1099511627776):f8 Tryz.prog 266 [.val (tx t)] (.ret (.val (tx (R7 t))) []) []:=by
 refine i7 mixed ok266 rfl (fun _=>rfl) ?_
 unfold ir266
 rw [b7]
 simp only [B0,I1,B2,H9,B3,x1,B1,I0,p9,D1,J5,J6,l5,w5,w6,o0,B4,w9,p6,H8,A9,w8,w7,G0,G1,a1i,a1j,Option.getD_some,Option.getD_none,E7,x7,u7,F7,u6,u0,F9,u1,F8,F6,F5,K2,z8,u4,F3,z6,u3,F2,E5,F4,z7,F0,t8,z1,F1,K4,K3,E6,E8,u2,E9,A0,u5,D4,q8,E4,E3,E2,J7,y8,s8,D9,y6,q9,D8,D2,E1,y7,D6,q7,y5,D7,J9,J8,D3,y4,t7,D5,y9,t6,M3,M2,N4,M4,M8,M6,M5,N3,M7,M9,N0,N1,N2,B7,B6,B5,O5,O6,C7,I2,x8,G5,A2,N6,x2,T2,P0,N7,Q2,Q4,Q3,T3,T4,L5,L7,L6,L8,L9,P9,A4,P8,G6,G7,G8,A5,a1o,H5,A8,T0,T1,K5,O7,O8,Option.map_some,Option.map_none,G9,A6,A1,u9,G3,G4,K7,K6,Q9,Q8,M1,H6,H7,M0,Q5,Q6,K8,v7,K9,v6,P4,H4,H3,p5,Q1,Q7,L4,P5,P7,P6,A3,C8,D0,C9,l9,Q0,T7,T6,P1,L2,X5,P2,v8,H1,H2,A7,H0,n0,x9,m8,y0,m0,N5,R0,R1,B8,B9,I4,I3,G2,i6,j3,j9,b8,f6,tx,elems]
 refine l3 (X:=Nat) (fun i=>⟨x5 [(0,.val (.str (bs t))),(3,.own 6),(4,.val (.int .i64 i))],x4 [(6,.row 5 1 ((R7 (t.take i)).map rvb))]⟩) (fun i=>i≤t.length) (fun i=>t.length - i) 0 (Le.mk _ _ ?_ ?_) ?_ ?_
 · simp [upd,PV.kill]
 · simp [upd,R7]
 · simp
 · rintro i hi
   simp [b9,j6,elems]
   refine j1 (fun h1=>?_) (fun h1=>?_)
   · have hnext:∀ st':St,st'.env 0=.val (.str (bs t))→st'.env 3=.own 6→st'.env 4=.val (.int .i64 ((i:Int)+1))→st'.mem 6=.row 5 1 ((R7 (t.take i)).map rvb++[rvb (b7u (t.getD i 0))]) →
      ∃ x',x'≤t.length∧t.length - x' < t.length - i∧Le st' ⟨x5 [(0,.val (.str (bs t))),(3,.own 6),(4,.val (.int .i64 (x':Int)))],x4 [(6,.row 5 1 ((R7 (t.take x')).map rvb))]⟩:=fun st' q1 q2 q3 q4=>by
      refine ⟨i+1,by omega,by omega,Le.mk _ _ ?_ ?_⟩
      · simp [q1,q2,q3]
      · simp only [List.mem_singleton,forall_eq,q4]
        rw [b4d t i 0 h1]
        simp [R7]
     have hlen:(R7 (t.take i)).length=i:=by simp [R7];omega
     have e1:((65:Int)≤(t[i].toNat:Int))↔65≤t[i].toNat:=by omega
     have e2:((t[i].toNat:Int)≤90)↔t[i].toNat≤90:=by omega
     by_cases h2:65≤t[i].toNat
     · by_cases h3:t[i].toNat≤90
       · simp [b9,j6,h1,e1,e2,h2,h3,hlen]
         refine ⟨by omega,by omega,hnext _ ?_ ?_ ?_ ?_⟩
         · simp [C7]
         · simp [C7]
         · simp [C7];exact wrap_i64 (by omega) (by omega)
         · rw [a3y _ _ _ h1]
           simp [C7,rvb,b7u,h2,h3]
           rw [c0c h2 h3]
           have:=(t[i]+32).toNat_lt
           rw [b46 (by omega) (by omega)]
           omega
       · simp [b9,j6,h1,e1,e2,h2,h3,hlen]
         refine ⟨by omega,by omega,hnext _ ?_ ?_ ?_ ?_⟩
         · simp [C7]
         · simp [C7]
         · simp [C7];exact wrap_i64 (by omega) (by omega)
         · rw [a3y _ _ _ h1]
           simp [C7,rvb,b7u,h2,h3]
     · simp [b9,j6,h1,e1,e2,h2,hlen]
       refine ⟨by omega,by omega,hnext _ ?_ ?_ ?_ ?_⟩
       · simp [C7]
       · simp [C7]
       · simp [C7];exact wrap_i64 (by omega) (by omega)
       · rw [a3y _ _ _ h1]
         simp [C7,rvb,b7u,h2]
   · have e:i=t.length:=by omega
     subst e
     have e1:(R7 t).map rvb=(R7 (t.take t.length)).map rvb:=by simp
     simp [b9]
     exact ⟨fun x _=>rfl,by rw [b88];rfl⟩
theorem a7c (t wo:Tx) (ht:t.length < 1099511627776) (hw:wo.length < 1099511627776):f8 Tryz.prog 313 [.val (tx t),.val (tx wo)] (.ret (.val (.bool (Y0 t wo))) []) []:=by
 refine i7 mixed ok313 rfl (fun _=>rfl) ?_
 unfold ir313
 rw [b7]
 simp only [B0,I1,B2,H9,B3,x1,B1,I0,p9,D1,J5,J6,l5,w5,w6,o0,B4,w9,p6,H8,A9,w8,w7,G0,G1,a1i,a1j,Option.getD_some,Option.getD_none,E7,x7,u7,F7,u6,u0,F9,u1,F8,F6,F5,K2,z8,u4,F3,z6,u3,F2,E5,F4,z7,F0,t8,z1,F1,K4,K3,E6,E8,u2,E9,A0,u5,D4,q8,E4,E3,E2,J7,y8,s8,D9,y6,q9,D8,D2,E1,y7,D6,q7,y5,D7,J9,J8,D3,y4,t7,D5,y9,t6,M3,M2,N4,M4,M8,M6,M5,N3,M7,M9,N0,N1,N2,B7,B6,B5,O5,O6,C7,I2,x8,G5,A2,N6,x2,T2,P0,N7,Q2,Q4,Q3,T3,T4,L5,L7,L6,L8,L9,P9,A4,P8,G6,G7,G8,A5,a1o,H5,A8,T0,T1,K5,O7,O8,Option.map_some,Option.map_none,G9,A6,A1,u9,G3,G4,K7,K6,Q9,Q8,M1,H6,H7,M0,Q5,Q6,K8,v7,K9,v6,P4,H4,H3,p5,Q1,Q7,L4,P5,P7,P6,A3,C8,D0,C9,l9,Q0,T7,T6,P1,L2,X5,P2,v8,H1,H2,A7,H0,n0,x9,m8,y0,m0,N5,R0,R1,B8,B9,I4,I3,G2,i6,j3,j9,b8,f6,tx]
 refine l3 (X:=Nat) (fun i=>⟨x5 [(0,.val (.str (bs t))),(1,.val (.str (bs wo))),(5,.val (.int .i64 i))],x4 []⟩) (fun i=>i≤t.length∧Y0 (t.take i) wo=true) (fun i=>t.length - i) 0 (Le.mk _ _ ?_ ?_) ?_ ?_
 · simp [upd]
 · simp
 · simp [Y0]
 · rintro i ⟨hi,hall⟩
   simp [b9,j6]
   refine j1 (fun h1=>?_) (fun h1=>?_)
   · have hstep:Y0 (t.take (i+1)) wo=(decide (33≤t[i].toNat∧t[i].toNat≤126) && !decide (t[i]∈wo)):=by
      unfold Y0 at hall ⊢
      rw [S0 t _ i h1,hall,Bool.true_and]
     have C2:(decide (33≤t[i].toNat∧t[i].toNat≤126) && !decide (t[i]∈wo))=false→Y0 t wo=false:=fun hb=>by
      unfold Y0
      rw [List.all_eq_false]
      exact ⟨t[i],List.getElem_mem h1,by simpa using hb⟩
     have e1:((t[i].toNat:Int) < 33)↔t[i].toNat < 33:=by omega
     have e2:((126:Int) < (t[i].toNat:Int))↔126 < t[i].toNat:=by omega
     by_cases h2:33≤t[i].toNat
     · have h2':¬ t[i].toNat < 33:=by omega
       by_cases h3:126 < t[i].toNat
       · simp [b9,j6,h1,e1,e2,h2,h2',h3]
         exact C2 (by simp;omega)
       · simp [b9,j6,h1,e1,e2,h2,h2',h3]
         refine b6 rfl rfl (.inl rfl) (a1k wo t[i] hw) ?_
         by_cases h4:t[i]∈wo
         · simp [num,b9,W7,h4]
           exact C2 (by simp [h4])
         · simp [num,b9,W7,h4]
           refine LoopNext.mk (i+1) ⟨by omega,by rw [hstep];simp [h4];omega⟩ (by omega) (Le.mk _ _ ?_ ?_)
           · simp [C7];exact wrap_i64 (by omega) (by omega)
           · simp
     · have h2':t[i].toNat < 33:=by omega
       simp [b9,j6,h1,e1,e2,h2,h2']
       exact C2 (by simp;omega)
   · have e:i=t.length:=by omega
     subst e
     simp [b9]
     simpa using hall.symm
theorem b81 (t:Tx) (ht:t.length < 1099511627776):f8 Tryz.prog 312 [.val (tx t)] (.ret (.val (.bool (W4 t))) []) []:=by
 refine i7 mixed ok312 rfl (fun _=>rfl) ?_
 unfold ir312
 rw [b7]
 simp [i6,j3,j9,b8,f6,tx,b9]
 refine b6 rfl rfl (.inl rfl) (U6 .i64 t.length 1 12) ?_
 by_cases hlen:1≤t.length∧t.length≤12
 rotate_left
 · rw [show decide ((1:Int)≤t.length∧(t.length:Int)≤12)=false from decide_eq_false (by omega)]
   simp
   simp [W4,hlen]
 rw [show decide ((1:Int)≤t.length∧(t.length:Int)≤12)=true from decide_eq_true (by omega)]
 simp
 refine l3 (X:=Nat) (fun i=>⟨x5 [(0,.val (.str (bs t))),(3,.val (.int .i64 i))],x4 []⟩) (fun i=>i≤t.length∧a3r (t.take i)=true) (fun i=>t.length - i) 0 (Le.mk _ _ ?_ ?_) ?_ ?_
 · simp [upd]
 · simp
 · simp [a3r]
 · rintro i ⟨hi,hall⟩
   simp [b9,j6]
   refine j1 (fun h1=>?_) (fun h1=>?_)
   · have hstep:=b0j t i h1
     rw [hall,Bool.true_and] at hstep
     have C2:=a8o t i h1
     have hls:W4 t=a3r t:=by simp [W4,hlen]
     have e1:((97:Int)≤(t[i].toNat:Int))↔97≤t[i].toNat:=by omega
     have e2:((t[i].toNat:Int)≤122)↔t[i].toNat≤122:=by omega
     have hgood:(if i=0 then O4 t[i] else X0 t[i])=true→∀ st':St,st'.env 0=.val (.str (bs t))→st'.env 3=.val (.int .i64 (IntKind.i64.wrap ((i:Int)+1))) →
      ∃ x',(x'≤t.length∧a3r (t.take x')=true)∧t.length - x' < t.length - i∧Le st' ⟨x5 [(0,.val (.str (bs t))),(3,.val (.int .i64 (x':Int)))],x4 []⟩:=fun hg st' q1 q2=>by
      refine ⟨i+1,⟨by omega,by rw [hstep,hg]⟩,by omega,Le.mk _ _ ?_ ?_⟩
      · simp [q1,q2];exact wrap_i64 (by omega) (by omega)
      · simp
     by_cases hs:97≤t[i].toNat∧t[i].toNat≤122
     · simp [b9,j6,h1,e1,e2,hs.1,hs.2]
       refine hgood ?_ _ ?_ ?_
       · simp [O4,X0,hs]
       · simp
       · simp
     · by_cases h2:97≤t[i].toNat
       · have h3:¬ t[i].toNat≤122:=fun h=>hs ⟨h2,h⟩
         have hlow:O4 t[i]=false:=by simp [O4];omega
         by_cases h0:i=0
         · simp [b9,j6,h1,e1,e2,h2,h3,(eq_true h0:(i=0)=True)]
           exact hls.trans (C2 (by rw [if_pos h0];exact hlow))
         · simp [b9,j6,h1,e1,e2,h2,h3,h0]
           refine b6 rfl rfl (.inl rfl) (a4d t[i]) ?_
           cases hd:O0 t[i] with
           | true=>
            simp [h0]
            refine hgood ?_ _ ?_ ?_
            · simp [h0,X0,hd]
            · simp
            · simp
           | false=>
            have e3:((t[i].toNat:Int)=45)↔t[i].toNat=45:=by omega
            have e4:((t[i].toNat:Int)=43)↔t[i].toNat=43:=by omega
            have e5:((t[i].toNat:Int)=46)↔t[i].toNat=46:=by omega
            by_cases h4:t[i].toNat=45
            · simp [b9,j6,h1,h0,e3,e4,e5,h4]
              refine hgood ?_ _ ?_ ?_
              · simp [h0,X0,h4]
              · simp
              · simp
            · by_cases h5:t[i].toNat=43
              · simp [b9,j6,h1,h0,e3,e4,e5,h4,h5]
                refine hgood ?_ _ ?_ ?_
                · simp [h0,X0,h5]
                · simp
                · simp
              · by_cases h6:t[i].toNat=46
                · simp [b9,j6,h1,h0,e3,e4,e5,h4,h5,h6]
                  refine hgood ?_ _ ?_ ?_
                  · simp [h0,X0,h6]
                  · simp
                  · simp
                · simp [b9,j6,h1,h0,e3,e4,e5,h4,h5,h6]
                  exact hls.trans (C2 (by rw [if_neg h0];simp [X0,hlow,hd,h4,h5,h6]))
       · skip
         have hlow:O4 t[i]=false:=by simp [O4];omega
         by_cases h0:i=0
         · simp [b9,j6,h1,e1,e2,h2,(eq_true h0:(i=0)=True)]
           exact hls.trans (C2 (by rw [if_pos h0];exact hlow))
         · simp [b9,j6,h1,e1,e2,h2,h0]
           refine b6 rfl rfl (.inl rfl) (a4d t[i]) ?_
           cases hd:O0 t[i] with
           | true=>
            simp [h0]
            refine hgood ?_ _ ?_ ?_
            · simp [h0,X0,hd]
            · simp
            · simp
           | false=>
            have e3:((t[i].toNat:Int)=45)↔t[i].toNat=45:=by omega
            have e4:((t[i].toNat:Int)=43)↔t[i].toNat=43:=by omega
            have e5:((t[i].toNat:Int)=46)↔t[i].toNat=46:=by omega
            by_cases h4:t[i].toNat=45
            · simp [b9,j6,h1,h0,e3,e4,e5,h4]
              refine hgood ?_ _ ?_ ?_
              · simp [h0,X0,h4]
              · simp
              · simp
            · by_cases h5:t[i].toNat=43
              · simp [b9,j6,h1,h0,e3,e4,e5,h4,h5]
                refine hgood ?_ _ ?_ ?_
                · simp [h0,X0,h5]
                · simp
                · simp
              · by_cases h6:t[i].toNat=46
                · simp [b9,j6,h1,h0,e3,e4,e5,h4,h5,h6]
                  refine hgood ?_ _ ?_ ?_
                  · simp [h0,X0,h6]
                  · simp
                  · simp
                · simp [b9,j6,h1,h0,e3,e4,e5,h4,h5,h6]
                  exact hls.trans (C2 (by rw [if_neg h0];simp [X0,hlow,hd,h4,h5,h6]))
   · have e:i=t.length:=by omega
     subst e
     simp [b9]
     simp [W4,hlen]
     simpa using hall.symm
theorem b2j (last:Bool) (t:Tx) (i:Nat) (h:i < t.length):U8 last (t.drop i)=if !(O4 t[i] || O0 t[i]) && (last || !decide (t[i].toNat=45∨t[i].toNat=46)) then false else U8 (!(O4 t[i] || O0 t[i])) (t.drop (i+1)):=by
 rw [List.drop_eq_getElem_cons h];rfl
theorem c5b (t:Tx) (ht:t.length < 1099511627776):f8 Tryz.prog 314 [.val (tx t)] (.ret (.val (.bool (a1s t))) []) []:=by
 refine i7 mixed ok314 rfl (fun _=>rfl) ?_
 unfold ir314
 rw [b7]
 simp [i6,j3,j9,b8,f6,tx]
 refine l3 (X:=Nat×Bool) (fun x=>⟨x5 [(0,.val (.str (bs t))),(3,.val (.bool x.2)),(4,.val (.int .i64 x.1))],x4 []⟩) (fun x=>x.1≤t.length∧a1s t=U8 x.2 (t.drop x.1)) (fun x=>t.length - x.1) (0,true) (Le.mk _ _ ?_ ?_) ?_ ?_
 · simp [upd]
 · simp
 · simp [a1s]
 · rintro ⟨i,last⟩ ⟨hi,hinv⟩
   simp only at hi hinv
   simp [b9,j6]
   refine j1 (fun h1=>?_) (fun h1=>?_)
   · rw [b2j last t i h1] at hinv
     have e1:((97:Int)≤(t[i].toNat:Int))↔97≤t[i].toNat:=by omega
     have e2:((t[i].toNat:Int)≤122)↔t[i].toNat≤122:=by omega
     have e3:((t[i].toNat:Int)=45)↔t[i].toNat=45:=by omega
     have e5:((t[i].toNat:Int)=46)↔t[i].toNat=46:=by omega
     have hgood:∀ (l:Bool),a1s t=U8 l (t.drop (i+1))→∀ st':St,st'.env 0=.val (.str (bs t))→st'.env 3=.val (.bool l)→st'.env 4=.val (.int .i64 (IntKind.i64.wrap ((i:Int)+1))) →
      ∃ x':Nat×Bool,(x'.1≤t.length∧a1s t=U8 x'.2 (t.drop x'.1))∧t.length - x'.1 < t.length - i∧Le st' ⟨x5 [(0,.val (.str (bs t))),(3,.val (.bool x'.2)),(4,.val (.int .i64 (x'.1:Int)))],x4 []⟩:=fun l hl st' q1 q2 q3=>by
      refine ⟨(i+1,l),⟨by simp only;omega,hl⟩,by simp only;omega,Le.mk _ _ ?_ ?_⟩
      · simp [q1,q2,q3];exact wrap_i64 (by omega) (by omega)
      · simp
     by_cases hs:97≤t[i].toNat∧t[i].toNat≤122
     · have hlow:O4 t[i]=true:=by simp [O4,hs]
       simp [b9,j6,h1,e1,e2,hs.1,hs.2]
       refine hgood false (by rw [hinv];simp [hlow]) _ ?_ ?_ ?_<;>simp
     · have hlow:O4 t[i]=false:=by simp [O4];omega
       by_cases h2:97≤t[i].toNat
       · have h3:¬ t[i].toNat≤122:=fun h=>hs ⟨h2,h⟩
         simp [b9,j6,h1,e1,e2,h2,h3]
         refine b6 rfl rfl (.inl rfl) (a4d t[i]) ?_
         cases hd:O0 t[i] with
         | true=>
          simp
          refine hgood false (by rw [hinv];simp [hlow,hd]) _ ?_ ?_ ?_<;>simp
         | false=>
          cases last with
          | true=>
           simp
           rw [hinv];simp [hlow,hd]
          | false=>
           by_cases h4:t[i].toNat=45
           · simp [b9,j6,h1,e3,e5,h4]
             refine hgood true (by rw [hinv];simp [hlow,hd,h4]) _ ?_ ?_ ?_<;>simp
           · by_cases h6:t[i].toNat=46
             · simp [b9,j6,h1,e3,e5,h4,h6]
               refine hgood true (by rw [hinv];simp [hlow,hd,h6]) _ ?_ ?_ ?_<;>simp
             · simp [b9,j6,h1,e3,e5,h4,h6]
               rw [hinv];simp [hlow,hd,h4,h6]
       · skip
         simp [b9,j6,h1,e1,e2,h2]
         refine b6 rfl rfl (.inl rfl) (a4d t[i]) ?_
         cases hd:O0 t[i] with
         | true=>
          simp
          refine hgood false (by rw [hinv];simp [hlow,hd]) _ ?_ ?_ ?_<;>simp
         | false=>
          cases last with
          | true=>
           simp
           rw [hinv];simp [hlow,hd]
          | false=>
           by_cases h4:t[i].toNat=45
           · simp [b9,j6,h1,e3,e5,h4]
             refine hgood true (by rw [hinv];simp [hlow,hd,h4]) _ ?_ ?_ ?_<;>simp
           · by_cases h6:t[i].toNat=46
             · simp [b9,j6,h1,e3,e5,h4,h6]
               refine hgood true (by rw [hinv];simp [hlow,hd,h6]) _ ?_ ?_ ?_<;>simp
             · simp [b9,j6,h1,e3,e5,h4,h6]
               rw [hinv];simp [hlow,hd,h4,h6]
   · have e:i=t.length:=by omega
     subst e
     simp [b9]
     rw [hinv];simp [U8]
end Go.Proofs
end
section
namespace Go.Proofs
open Go.PW Go.KP
attribute [local simp] RV.cells RV.one PV.cells PV.solid PV.one x6 j2 J4 I7 RV.ofCells elems PV.killL
variable [GF]
theorem byte1 (m:Nat):Y7 [RV.int .u8 (48+(m:Int))]=bs [UInt8.ofNat (48+m)]:=by
 have:(48+(m:Int)).toNat=48+m:=by omega
 simp only [Y7,bs,List.map,RV.byte,this]
theorem b1c (n:Nat):n≤9223372036854775807→f8 Tryz.prog 137 [.val (num n)] (.ret (.val (tx (a2i n))) []) []:=by
 induction n using Nat.strongRecOn with
 | ind n ih=>
  intro hn
  refine i7 mixed ok137 rfl (fun _=>rfl) ?_
  unfold ir137
  rw [b7]
  have g1:¬ ((n:Int)=-9223372036854775808):=by omega
  have g2:¬ ((n:Int) < 0):=by omega
  by_cases h:n < 10
  · have g3:(n:Int) < 10:=by omega
    have g4:IntKind.i64.wrap (48+(n:Int))=48+(n:Int):=wrap_i64 (by omega) (by omega)
    have g5:IntKind.u8.wrap (48+(n:Int))=48+(n:Int):=b46 (by omega) (by omega)
    simp [i6,j3,j9,b8,f6,num,g1,g2,g3,g4,g5,RV.isU8]
    rw [a1h h]
    rw [byte1];rfl
  · have g3:¬ ((n:Int) < 10):=by omega
    have g6:(n:Int).tdiv 10=((n / 10:Nat):Int):=by rw [Int.tdiv_eq_ediv_of_nonneg (by omega)];omega
    have g7:(n:Int).tmod 10=((n % 10:Nat):Int):=by rw [Int.tmod_eq_emod_of_nonneg (by omega)];omega
    have hih:=ih (n / 10) (by omega) (by omega)
    rw [a3x h]
    have hl:=c6j (n / 10)
    have ha:n / 10≤922337203685477580:=by omega
    generalize n / 10=a at *
    have hb:n % 10 < 10:=Nat.mod_lt _ (by omega)
    generalize n % 10=b at *
    have g8:IntKind.i64.wrap (a:Int)=(a:Int):=wrap_i64 (by omega) (by omega)
    have g4:IntKind.i64.wrap (48+(b:Int))=48+(b:Int):=wrap_i64 (by omega) (by omega)
    have g5:IntKind.u8.wrap (48+(b:Int))=48+(b:Int):=b46 (by omega) (by omega)
    simp [i6,j3,j9,b8,f6,num,g1,g2,g3,g6,g7,g8,g4,g5,RV.isU8]
    refine p7 rfl rfl (.inl rfl) hih ?_
    simp [i6,j3,j9,b8,f6,num,g1,g2,g3,g6,g7,g8,g4,g5,RV.isU8,tx]
    rw [byte1]
    simp [b9,J1]
    omega
def a9p:Option Int→PV
 | some n=>.tup [.val (num n),.val (.bool true)]
 | none=>.tup [.val (num 0),.val (.bool false)]
theorem b5m (u:Tx) (neg:Bool) (st:St) (h0:st.env 0=.val (tx u)) (h4:st.env 4=.val (num (if neg then -1 else 1))) (h5:st.env 5=.val (num 0)) (hu:u.length≤18) :
 EC Tryz.prog ir268_from5 st (K:=⟨a1n [.t 2,.t 3] (a9p (if u.all O0 then some (if neg then - (V7 u:Int) else (V7 u:Int)) else none))⟩):=by
 unfold ir268_from5
 simp only [B0,I1,B2,H9,B3,x1,B1,I0,p9,D1,J5,J6,l5,w5,w6,o0,B4,w9,p6,H8,A9,w8,w7,G0,G1,a1i,a1j,Option.getD_some,Option.getD_none,E7,x7,u7,F7,u6,u0,F9,u1,F8,F6,F5,K2,z8,u4,F3,z6,u3,F2,E5,F4,z7,F0,t8,z1,F1,K4,K3,E6,E8,u2,E9,A0,u5,D4,q8,E4,E3,E2,J7,y8,s8,D9,y6,q9,D8,D2,E1,y7,D6,q7,y5,D7,J9,J8,D3,y4,t7,D5,y9,t6,M3,M2,N4,M4,M8,M6,M5,N3,M7,M9,N0,N1,N2,B7,B6,B5,O5,O6,C7,I2,x8,G5,A2,N6,x2,T2,P0,N7,Q2,Q4,Q3,T3,T4,L5,L7,L6,L8,L9,P9,A4,P8,G6,G7,G8,A5,a1o,H5,A8,T0,T1,K5,O7,O8,Option.map_some,Option.map_none,G9,A6,A1,u9,G3,G4,K7,K6,Q9,Q8,M1,H6,H7,M0,Q5,Q6,K8,v7,K9,v6,P4,H4,H3,p5,Q1,Q7,L4,P5,P7,P6,A3,C8,D0,C9,l9,Q0,T7,T6,P1,L2,X5,P2,v8,H1,H2,A7,H0,n0,x9,m8,y0,m0,N5,R0,R1,B8,B9,I4,I3,G2]
 refine l3 (X:=Nat) (fun i=>⟨x5 [(0,.val (tx u)),(4,.val (num (if neg then -1 else 1))),(5,.val (num (V7 (u.take i)))),(6,.val (num i))],x4 []⟩) (fun i=>i≤u.length∧(u.take i).all O0=true) (fun i=>u.length - i) 0 (Le.mk _ _ ?_ ?_) ?_ ?_
 · simp [upd,h0,h4,h5,num,V7]
 · simp
 · simp
 · rintro i ⟨hi,hall⟩
   have hlv:V7 (u.take i) < 1000000000000000000:=by
    have h1:=b1j _ hall
    have h2:(u.take i).length≤18:=by simp;omega
    exact Nat.lt_of_lt_of_le h1 (Nat.le_trans (Nat.pow_le_pow_right (by omega) h2) (by decide))
   simp [tx,num,b9,j6]
   refine j1 (fun h1=>?_) (fun h1=>?_)
   · have e1:((u[i].toNat:Int) < 48)↔u[i].toNat < 48:=by omega
     have e1':((48:Int)≤(u[i].toNat:Int))↔48≤u[i].toNat:=by omega
     have e2:((57:Int) < (u[i].toNat:Int))↔57 < u[i].toNat:=by omega
     by_cases h2:u[i].toNat < 48
     · have h2':¬ 48≤u[i].toNat:=by omega
       simp [tx,num,b9,j6,h1,e1,e1',e2,h2,h2']
       rw [if_neg (fun hA=>by have:=hA u[i] (List.getElem_mem h1);simp [O0] at this;omega)];rfl
     · have h2':48≤u[i].toNat:=by omega
       by_cases h3:57 < u[i].toNat
       · simp [tx,num,b9,j6,h1,e1,e1',e2,h2,h2',h3]
         rw [if_neg (fun hA=>by have:=hA u[i] (List.getElem_mem h1);simp [O0] at this;omega)];rfl
       · simp [tx,num,b9,j6,h1,e1,e1',e2,h2,h2',h3]
         have hlv2:V7 (u.take i) < 100000000000000000:=by
          have h1':=b1j _ hall
          have h2':(u.take i).length≤17:=by simp;omega
          exact Nat.lt_of_lt_of_le h1' (Nat.le_trans (Nat.pow_le_pow_right (by omega) h2') (by decide))
         have hw:IntKind.i64.wrap (IntKind.i64.wrap (IntKind.i64.wrap ((V7 (u.take i):Int)*10)+IntKind.i64.wrap (u[i].toNat:Int)) - 48)=((V7 (u.take (i+1)):Nat):Int):=by
          rw [b4d u i 0 h1,a68,a3y _ _ _ h1]
          rw [wrap_i64 (x:=(V7 (u.take i):Int)*10) (by omega) (by omega),wrap_i64 (x:=(u[i].toNat:Int)) (by omega) (by omega),wrap_i64 (x:=(V7 (u.take i):Int)*10+(u[i].toNat:Int)) (by omega) (by omega),wrap_i64 (by omega) (by omega)]
          omega
         refine LoopNext.mk (i+1) ⟨by omega,?_⟩ (by omega) (Le.mk _ _ ?_ ?_)
         · rw [S0 _ _ _ h1,hall];simp [O0];omega
         · simp [hw,tx,num];exact wrap_i64 (by omega) (by omega)
         · simp
   · have e:i=u.length:=by omega
     subst e
     rw [List.take_length] at hall hlv
     simp [tx,num,b9]
     have hA:∀ x,x∈u→O0 x=true:=by simpa using hall
     have w1:IntKind.i64.wrap (-(V7 u:Int))=-(V7 u:Int):=wrap_i64 (by omega) (by omega)
     have w2:IntKind.i64.wrap (V7 u:Int)=(V7 u:Int):=wrap_i64 (by omega) (by omega)
     cases neg with
     | true=>simp [a9p,num,eq_true hA,w1]
     | false=>simp [a9p,num,eq_true hA,w2]
theorem a5g (u:Tx) (neg:Bool) (st:St) (h0:st.env 0=.val (tx u)) (h4:st.env 4=.val (num (if neg then -1 else 1))) (hu:u.length < 1099511627776) :
 EC Tryz.prog ir268_from3 st (K:=⟨a1n [.t 2,.t 3] (a9p (a1r neg u))⟩):=by
 unfold ir268_from3
 by_cases a1:u.length=0
 · have:u=[]:=List.eq_nil_of_length_eq_zero a1
   subst this
   simp [h0,tx,b9]
   rw [show a1r neg []=none by simp [a1r,a26]];rfl
 · have a1':¬ ((u.length:Int)=0):=by omega
   by_cases a2:18 < u.length
   · have a2':(18:Int) < u.length:=by omega
     have a2'':¬ (u.length:Int)≤18:=by omega
     simp [h0,tx,b9,a1,a1',a2',a2'']
     rw [show a1r neg u=none by simp [a1r,a26,a2]];rfl
   · have hpos:0 < u.length:=by omega
     have a2':¬ (18:Int) < u.length:=by omega
     have a2'':(u.length:Int)≤18:=by omega
     have e0:u[0]?.getD 0=u.getD 0 0:=by simp
     have e1:((u[0].toNat:Int)=48)↔u[0].toNat=48:=by omega
     have e2:((1:Int) < (u.length:Int))↔1 < u.length:=by omega
     have hg:u[0]?.getD 0=u[0]:=by simp [List.getElem?_eq_getElem hpos]
     have hgo:a26 neg u=false→∀ st':St,st'.env 0=.val (tx u)→st'.env 4=.val (num (if neg then -1 else 1))→st'.env 5=.val (num 0)→EC Tryz.prog ir268_from5 st' (K:=⟨a1n [.t 2,.t 3] (a9p (a1r neg u))⟩):=fun hb st' q1 q2 q3=>by
      rw [show a1r neg u=(if u.all O0 then some (if neg then - (V7 u:Int) else (V7 u:Int)) else none) by unfold a1r;rw [hb];rfl]
      exact b5m u neg st' q1 q2 q3 (by omega)
     by_cases a3:u[0].toNat=48
     · by_cases a4:1 < u.length
       · simp [h0,tx,b9,a1,a1',a2',a2'',j6,hpos,e1,e2,a3,a4]
         rw [show a1r neg u=none by simp [a1r,a26,hg,a3,a4]];rfl
       · cases neg with
         | true=>
          simp [h0,h4,num,tx,b9,a1,a1',a2',a2'',j6,hpos,e1,e2,a3,a4]
          rw [show a1r true u=none by simp [a1r,a26,hg,a3]];rfl
         | false=>
          simp [h0,h4,num,tx,b9,a1,a1',a2',a2'',j6,hpos,e1,e2,a3,a4]
          refine hgo ?_ _ ?_ ?_ ?_
          · simp [a26,hg,a3,a4,a1,a2]
          · simp [h0,tx]
          · simp [h4,num]
          · simp [num]
     · simp [h0,tx,b9,a1,a1',a2',a2'',j6,hpos,e1,e2,a3]
       refine hgo ?_ _ ?_ ?_ ?_
       · simp [a26,hg,a3,a1,a2]
       · simp [h0,tx]
       · simp [h4,num]
       · simp [num]
theorem b83 (t:Tx) (ht:t.length < 1099511627776):f8 Tryz.prog 268 [.val (tx t)] (.ret (a9p (X3 t)) []) []:=by
 refine i7 mixed ok268 rfl (fun ι=>by cases X3 t<;>rfl) ?_
 unfold ir268
 rw [b7]
 cases t with
 | nil=>
  simp [i6,j3,j9,b8,f6,tx,b9]
  rw [show X3 []=a1r false [] by simp [X3,a1r,a26]]
  refine a5g [] false _ ?_ ?_ (by simp)<;>simp [tx,num]
 | cons c r=>
  have hr:r.length < 1099511627776:=by simp at ht;omega
  have e0:(0:Int) < ((r.length:Int)+1):=by omega
  by_cases hc:c=45
  · have e1:((c.toNat:Int)=45):=by rw [hc];rfl
    simp [i6,j3,j9,b8,f6,tx,b9,j6,e0,e1,S4]
    rw [show X3 (c :: r)=a1r true r by simp [X3,hc]]
    refine a5g r true _ ?_ ?_ hr<;>simp [tx,num]
  · have e1:¬ ((c.toNat:Int)=45):=fun h=>hc (UInt8.toNat_inj.1 (by simp;omega))
    simp [i6,j3,j9,b8,f6,tx,b9,j6,e0,e1]
    rw [show X3 (c :: r)=a1r false (c :: r) by simp [X3,hc]]
    refine a5g (c :: r) false _ ?_ ?_ ht<;>simp [tx,num]
theorem c5a (u:LUrl) (hs:u.Small):f8 Tryz.prog 264 [.val (X7 u)] (.ret (.val (tx (c2c u))) []) []:=by
 refine i7 mixed ok264 rfl (fun _=>rfl) ?_
 unfold ir264
 rw [b7]
 obtain ⟨s1,s2,s3,s4,s5,s6,s7⟩:=hs
 have e1:(⟨#[58,47,47]⟩:ByteArray)=bs [58,47,47]:=rfl
 have e2:(⟨#[58]⟩:ByteArray)=bs [58]:=rfl
 simp [i6,j3,j9,b8,f6,X7,tx,num,b9,e1,e2,J1]
 refine ⟨by omega,by omega,j1 (fun h=>?_) (fun h=>?_)⟩
 · obtain ⟨p,hp⟩:=Int.eq_ofNat_of_zero_le (show 0≤u.port by omega)
   simp [X7,tx,num,b9,e1,e2,J1]
   refine b6 rfl rfl (.inl rfl) (by rw [hp];exact b1c p (by omega)) ?_
   have hl:=a35 18 p (by omega)
   simp [X7,tx,num,b9,e1,e2,J1]
   refine ⟨by omega,by omega,?_⟩
   simp [c2c,a1u,hp,show 0 < p by omega]
 · simp [X7,tx,num,b9,e1,e2,J1]
   simp [c2c,a1u,h]
theorem b1s (u:LUrl) (hs:u.Small) (pre:Tx) (hp:pre.length < 4398046511104) (st:St) (h1:st.env 1=.ptr 1 0) (h3:st.env 3=.val (tx pre)) (hm:st.mem 1=.box [.val (tx u.scheme),.val (tx u.user),.val (tx u.host),.val (num u.port),.val (tx u.path),.val (tx u.query),.val (tx u.frag),.val (.bool u.hasQ),.val (.bool u.hasF)]) :
 EC Tryz.prog ir257_from4 st (K:=⟨a1n [.t 2] (.val (tx (pre++(u.host++a1u u.port++u.path)++(if u.hasQ then 63 :: u.query else [])++(if u.hasF then 35 :: u.frag else []))))⟩):=by
 unfold ir257_from4
 obtain ⟨s1,s2,s3,s4,s5,s6,s7⟩:=hs
 have e3:(⟨#[]⟩:ByteArray)=bs []:=rfl
 have e5:(⟨#[63]⟩:ByteArray)=bs [63]:=rfl
 have e6:(⟨#[35]⟩:ByteArray)=bs [35]:=rfl
 simp [h1,h3,hm,tx,num,b9,e3,e5,e6,J1]
 refine p7 rfl rfl (.inl rfl) (c5a ⟨[],[],u.host,u.port,[],[],[],false,false⟩ ⟨by simp,by simp,s3,by simp,by simp,by simp,s7⟩) ?_
 simp [h1,h3,hm,tx,num,b9,e3,e5,e6,J1,S4,c2c]
 have hpl:=b9u u.port s7
 have htk:List.take (u.host.length+(a1u u.port).length) (u.host++a1u u.port)=u.host++a1u u.port:=List.take_of_length_le (by simp)
 refine ⟨by omega,by omega,?_⟩
 cases hq:u.hasQ with
 | true=>
  refine j1 (fun _=>?_) (fun h=>(h (by simp)).elim)
  simp [h1,h3,hm,tx,num,b9,e3,e5,e6,J1,htk]
  refine ⟨by omega,by omega,?_⟩
  cases hf:u.hasF with
  | true=>
   refine j1 (fun _=>?_) (fun h=>(h (by simp)).elim)
   simp [h1,h3,hm,tx,num,b9,e3,e5,e6,J1,htk]
   omega
  | false=>
   refine j1 (fun h=>by simp at h) (fun _=>?_)
   simp [h1,h3,hm,tx,num,b9,e3,e5,e6,J1,htk]
 | false=>
  refine j1 (fun h=>by simp at h) (fun _=>?_)
  simp [h1,h3,hm,tx,num,b9,e3,e5,e6,J1,htk]
  cases hf:u.hasF with
  | true=>
   refine j1 (fun _=>?_) (fun h=>(h (by simp)).elim)
   simp [h1,h3,hm,tx,num,b9,e3,e5,e6,J1,htk]
   omega
  | false=>
   refine j1 (fun h=>by simp at h) (fun _=>?_)
   simp [h1,h3,hm,tx,num,b9,e3,e5,e6,J1,htk]
theorem a94 (u:LUrl) (hs:u.Small):f8 Tryz.prog 257 [.val (X7 u)] (.ret (.val (tx (X9 u))) []) []:=by
 refine i7 mixed ok257 rfl (fun _=>rfl) ?_
 unfold ir257
 rw [b7]
 have hs':=hs
 obtain ⟨s1,s2,s3,s4,s5,s6,s7⟩:=hs
 have e1:(⟨#[58,47,47]⟩:ByteArray)=bs [58,47,47]:=rfl
 have e2:(⟨#[58]⟩:ByteArray)=bs [58]:=rfl
 have e3:(⟨#[]⟩:ByteArray)=bs []:=rfl
 have e4:(⟨#[64]⟩:ByteArray)=bs [64]:=rfl
 have e5:(⟨#[63]⟩:ByteArray)=bs [63]:=rfl
 have e6:(⟨#[35]⟩:ByteArray)=bs [35]:=rfl
 simp [i6,j3,j9,b8,f6,X7,tx,num,b9,e1,e2,J1]
 refine b6 rfl rfl (.inl rfl) (a6z u.scheme) ?_
 by_cases hw:a0f u.scheme=true
 · simp [X7,tx,num,b9,e1,e2,e3,e4,J1,I6,hw]
   refine ⟨by omega,j1 (fun hu=>?_) (fun hu=>?_)⟩
   · simp [X7,tx,num,b9,e1,e2,e3,e4,J1,I6]
     refine ⟨by omega,by omega,?_⟩
     have e:X9 u=(u.scheme++[58,47,47]++(u.user++[64]))++(u.host++a1u u.port++u.path)++(if u.hasQ then 63 :: u.query else [])++(if u.hasF then 35 :: u.frag else []):=by simp [X9,hw,hu]
     have:=b1s u hs' (u.scheme++[58,47,47]++(u.user++[64])) (by simp;omega)
     rw [← e] at this
     refine this _ ?_ ?_ ?_<;>simp [tx,num]
   · have hu:u.user=[]:=Classical.byContradiction hu
     have e:X9 u=(u.scheme++[58,47,47])++(u.host++a1u u.port++u.path)++(if u.hasQ then 63 :: u.query else [])++(if u.hasF then 35 :: u.frag else []):=by simp [X9,hw,hu]
     have:=b1s u hs' (u.scheme++[58,47,47]) (by simp;omega)
     rw [← e] at this
     simp [X7,tx,num,b9,e1,e2,e3,e4,J1,I6]
     refine this _ ?_ ?_ ?_<;>simp [tx,num]
 · simp [X7,tx,num,b9,e1,e2,J1,hw]
   refine ⟨by omega,by omega,?_⟩
   simp [X9,hw]
end Go.Proofs
end
section
namespace Go.Proofs
open Go.PW Go.KP
attribute [local simp] RV.cells RV.one PV.cells PV.solid PV.one x6 j2 J4 I7 RV.ofCells elems PV.killL
variable [GF]
theorem b6z (u:LUrl) (hs:u.Small) (hw:a0f u.scheme=true) (st:St) (h1:st.env 1=.ptr 1 0) (hm:st.mem 1=.box [.val (tx u.scheme),.val (tx u.user),.val (tx u.host),.val (num u.port),.val (tx u.path),.val (tx u.query),.val (tx u.frag),.val (.bool u.hasQ),.val (.bool u.hasF)]) :
 EC Tryz.prog ir267_from3 st (K:=⟨a1n [.t 2] (.val (.bool (Y0 u.user [47,63,35,64] && a1s u.host && decide (0≤u.port∧u.port≤65535) && decide (u.port≠a0h u.scheme) && decide (0 < u.path.length) && decide ((u.path.getD 0 0).toNat=47))))⟩):=by
 unfold ir267_from3
 obtain ⟨s1,s2,s3,s4,s5,s6,s7⟩:=hs
 have e3:(⟨#[47,63,35,64]⟩:ByteArray)=bs [47,63,35,64]:=rfl
 simp [h1,hm,tx,num,b9,e3]
 refine p7 rfl rfl (.inl rfl) (a7c u.user [47,63,35,64] s2 (by simp)) ?_
 cases a1:Y0 u.user [47,63,35,64] with
 | false=>simp [h1,hm,tx,num,b9]
 | true=>
  simp [h1,hm,tx,num,b9]
  refine p7 rfl rfl (.inl rfl) (c5b u.host s3) ?_
  cases a2:a1s u.host with
  | false=>simp [h1,hm,tx,num,b9]
  | true=>
   simp [h1,hm,tx,num,b9]
   refine p7 rfl rfl (.inl rfl) (U6 .i64 u.port 0 65535) ?_
   cases a3:decide (0≤u.port∧u.port≤65535) with
   | false=>simp [h1,hm,tx,num,b9]
   | true=>
    simp [h1,hm,tx,num,b9]
    refine p7 rfl rfl (.inl rfl) (b3e u.scheme) ?_
    by_cases a4:u.port=a0h u.scheme
    · simp [h1,hm,tx,num,b9,a4]
    · simp [h1,hm,tx,num,b9,a4]
      by_cases a5:0 < u.path.length
      · have a5':u.path≠[]:=fun e=>by simp [e] at a5
        have e7:((u.path[0].toNat:Int)=47)↔u.path[0].toNat=47:=by omega
        simp [h1,hm,tx,num,b9,j6,a4,a5,a5',e7,List.getElem?_eq_getElem a5]
        by_cases h47:u.path[0].toNat=47
        · simp [h47]
        · have h47':((u.path[0].toNat:Int) == 47)=false:=by simp;omega
          rw [h47'];simp [h47]
      · simp [h1,hm,tx,num,b9,a4,a5]
def a5c (u:LUrl):Bool:=
 if a0f u.scheme then Y0 u.user [47,63,35,64] && a1s u.host && decide (0≤u.port∧u.port≤65535) && decide (u.port≠a0h u.scheme) && decide (0 < u.path.length) && decide ((u.path.getD 0 0).toNat=47)
 else decide (u.user=[]) && decide (u.host=[]) && decide (u.port=0) && !u.hasQ && !u.hasF
theorem b60 (u:LUrl) (hs:u.Small) (st:St) (h1:st.env 1=.ptr 1 0) (hm:st.mem 1=.box [.val (tx u.scheme),.val (tx u.user),.val (tx u.host),.val (num u.port),.val (tx u.path),.val (tx u.query),.val (tx u.frag),.val (.bool u.hasQ),.val (.bool u.hasF)]) :
 EC Tryz.prog ir267_from2 st (K:=⟨a1n [.t 2] (.val (.bool (a5c u)))⟩):=by
 unfold ir267_from2
 have e3:(⟨#[]⟩:ByteArray)=bs []:=rfl
 simp [h1,hm,tx,num,b9]
 refine b6 rfl rfl (.inl rfl) (a6z u.scheme) ?_
 cases hw:a0f u.scheme with
 | true=>
  simp [h1,hm,tx,num,b9]
  rw [show a5c u=_ by unfold a5c;rw [hw,if_pos rfl]]
  refine b6z u hs hw _ ?_ ?_<;>simp [h1,hm,tx,num]
 | false=>
  rw [show a5c u=_ by unfold a5c;rw [hw,if_neg (by simp)]]
  by_cases a1:u.user=[]
  · by_cases a2:u.host=[]
    · by_cases a3:u.port=0
      · cases a4:u.hasQ with
        | true=>simp [h1,hm,tx,num,b9,e3,I6,a1,a2,a3,a4]
        | false=>simp [h1,hm,tx,num,b9,e3,I6,a1,a2,a3,a4]
      · simp [h1,hm,tx,num,b9,e3,I6,a1,a2,a3]
    · simp [h1,hm,tx,num,b9,e3,I6,a1,a2]
  · simp [h1,hm,tx,num,b9,e3,I6,a1]
structure UO (st:St) (u:LUrl):Prop where
 e1:st.env 1=.ptr 1 0
 m1:st.mem 1=.box [.val (tx u.scheme),.val (tx u.user),.val (tx u.host),.val (num u.port),.val (tx u.path),.val (tx u.query),.val (tx u.frag),.val (.bool u.hasQ),.val (.bool u.hasF)]
section
variable {Ks:Kx (St→Prop)} {kx:Kx (RV→St→Prop)} {st:St} {u:LUrl} {b:Bool}
def c2t (u:LUrl):Bool:=decide (100 < (X9 u).length)
theorem okops43 (hs:u.Small) (h:UO st u) (hb:st.env 45=.val (.bool b)) (hK:∀ st',UO st' u→st'.env 50=.val (.bool (b || c2t u))→Ks.k st'):EO Tryz.prog ir267_ops1_43 st (Ks:=Ks) (kx:=kx):=by
 unfold ir267_ops1_43
 obtain ⟨e1,m1⟩:=h
 cases b with
 | true=>
  simp [hb]
  refine hK _ ⟨?_,?_⟩ ?_<;>simp [e1,m1]
 | false=>
  simp [hb,e1,m1]
  refine b6 rfl rfl (.inl rfl) (a94 u hs) ?_
  have e:((100:Int) < ((X9 u).length:Int))↔100 < (X9 u).length:=by omega
  simp [hb,e1,m1,tx,b9]
  refine hK _ ⟨?_,?_⟩ ?_<;>simp [e1,m1,c2t,e,tx,num]
def c2u (u:LUrl):Bool:=!Y0 u.frag [] || c2t u
theorem okops37 (hs:u.Small) (h:UO st u) (hb:st.env 39=.val (.bool b)) (hK:∀ st',UO st' u→st'.env 50=.val (.bool (b || c2u u))→Ks.k st'):EO Tryz.prog ir267_ops1_37 st (Ks:=Ks) (kx:=kx):=by
 unfold ir267_ops1_37
 have e3:(⟨#[]⟩:ByteArray)=bs []:=rfl
 cases b with
 | true=>
  simp [hb]
  refine okops43 (b:=true) hs ⟨?_,?_⟩ ?_ (fun st' q1 q2=>hK st' q1 ?_)
  · simp [h.e1]
  · simp [h.m1]
  · simp
  · simpa using q2
 | false=>
  simp [hb,h.e1,h.m1,e3,tx]
  refine b6 rfl rfl (.inl rfl) (a7c u.frag [] hs.2.2.2.2.2.1 (by simp)) ?_
  simp [hb,e3,tx]
  refine okops43 (b:=!Y0 u.frag []) hs ⟨?_,?_⟩ ?_ (fun st' q1 q2=>hK st' q1 ?_)
  · simp [h.e1]
  · simp [h.m1]
  · simp
  · simpa [c2u] using q2
def c2v (u:LUrl):Bool:=!Y0 u.query [35] || c2u u
theorem okops31 (hs:u.Small) (h:UO st u) (hb:st.env 33=.val (.bool b)) (hK:∀ st',UO st' u→st'.env 50=.val (.bool (b || c2v u))→Ks.k st'):EO Tryz.prog ir267_ops1_31 st (Ks:=Ks) (kx:=kx):=by
 unfold ir267_ops1_31
 have e3:(⟨#[35]⟩:ByteArray)=bs [35]:=rfl
 cases b with
 | true=>
  simp [hb]
  refine okops37 (b:=true) hs ⟨?_,?_⟩ ?_ (fun st' q1 q2=>hK st' q1 ?_)
  · simp [h.e1]
  · simp [h.m1]
  · simp
  · simpa using q2
 | false=>
  simp [hb,h.e1,h.m1,e3,tx]
  refine b6 rfl rfl (.inl rfl) (a7c u.query [35] hs.2.2.2.2.1 (by simp)) ?_
  simp [hb,e3,tx]
  refine okops37 (b:=!Y0 u.query [35]) hs ⟨?_,?_⟩ ?_ (fun st' q1 q2=>hK st' q1 ?_)
  · simp [h.e1]
  · simp [h.m1]
  · simp
  · simpa [c2v] using q2
def c2w (u:LUrl):Bool:=!Y0 u.path [63,35] || c2v u
theorem okops25 (hs:u.Small) (h:UO st u) (hb:st.env 27=.val (.bool b)) (hK:∀ st',UO st' u→st'.env 50=.val (.bool (b || c2w u))→Ks.k st'):EO Tryz.prog ir267_ops1_25 st (Ks:=Ks) (kx:=kx):=by
 unfold ir267_ops1_25
 have e3:(⟨#[63,35]⟩:ByteArray)=bs [63,35]:=rfl
 cases b with
 | true=>
  simp [hb]
  refine okops31 (b:=true) hs ⟨?_,?_⟩ ?_ (fun st' q1 q2=>hK st' q1 ?_)
  · simp [h.e1]
  · simp [h.m1]
  · simp
  · simpa using q2
 | false=>
  simp [hb,h.e1,h.m1,e3,tx]
  refine b6 rfl rfl (.inl rfl) (a7c u.path [63,35] hs.2.2.2.1 (by simp)) ?_
  simp [hb,e3,tx]
  refine okops31 (b:=!Y0 u.path [63,35]) hs ⟨?_,?_⟩ ?_ (fun st' q1 q2=>hK st' q1 ?_)
  · simp [h.e1]
  · simp [h.m1]
  · simp
  · simpa [c2w] using q2
def b3m (u:LUrl):Bool:=(!u.hasF && !decide (u.frag=[])) || c2w u
theorem okops15 (hs:u.Small) (h:UO st u) (hb:st.env 17=.val (.bool b)) (hK:∀ st',UO st' u→st'.env 50=.val (.bool (b || b3m u))→Ks.k st'):EO Tryz.prog ir267_ops1_15 st (Ks:=Ks) (kx:=kx):=by
 unfold ir267_ops1_15
 have e3:(⟨#[]⟩:ByteArray)=bs []:=rfl
 cases b with
 | true=>
  simp [hb]
  refine okops25 (b:=true) hs ⟨?_,?_⟩ ?_ (fun st' q1 q2=>hK st' q1 ?_)
  · simp [h.e1]
  · simp [h.m1]
  · simp
  · simpa using q2
 | false=>
  cases hf:u.hasF with
  | true=>
   simp [hb,h.e1,h.m1,e3,tx,hf]
   refine okops25 (b:=false) hs ⟨?_,?_⟩ ?_ (fun st' q1 q2=>hK st' q1 ?_)
   · simp [h.e1]
   · simp [h.m1]
   · simp
   · simpa [b3m,hf] using q2
  | false=>
   simp [hb,h.e1,h.m1,e3,tx,hf,I6]
   refine okops25 (b:=!decide (u.frag=[])) hs ⟨?_,?_⟩ ?_ (fun st' q1 q2=>hK st' q1 ?_)
   · simp [h.e1]
   · simp [h.m1]
   · simp
   · simpa [b3m,hf] using q2
end
theorem c2q (u:LUrl) (hs:u.Small):f8 Tryz.prog 267 [.val (X7 u)] (.ret (.val (.bool (S2 u))) []) []:=by
 refine i7 mixed ok267 rfl (fun _=>rfl) ?_
 unfold ir267
 rw [b7]
 have hlu:S2 u=(W4 u.scheme && (u.hasQ || decide (u.query=[])) && (u.hasF || decide (u.frag=[])) && Y0 u.path [63,35] && Y0 u.query [35] && Y0 u.frag [] && decide ((X9 u).length≤100) && a5c u):=rfl
 have hend:∀ st':St,UO st' u→∀ b,st'.env 50=.val (.bool (b || b3m u))→b=(!W4 u.scheme || (!u.hasQ && !decide (u.query=[]))) →
  CD (st'.env 50) (A:=⟨EC Tryz.prog (.seq (.reg [⟨some 2,.mov (.k (.val (.bool false))),none⟩]) .ret) st' (K:=⟨fun e st'=>ET e st' (Ks:=⟨fun st'=>EC Tryz.prog ir267_from2 st' (K:=⟨a1n [.t 2] (.val (.bool (S2 u)))⟩)⟩) (K:=⟨a1n [.t 2] (.val (.bool (S2 u)))⟩)⟩)⟩)
   (B:=⟨EC Tryz.prog .skip st' (K:=⟨fun e st'=>ET e st' (Ks:=⟨fun st'=>EC Tryz.prog ir267_from2 st' (K:=⟨a1n [.t 2] (.val (.bool (S2 u)))⟩)⟩) (K:=⟨a1n [.t 2] (.val (.bool (S2 u)))⟩)⟩)⟩):=by
  intro st' h b hb hbb
  have hlu2:S2 u=(!(b || b3m u) && a5c u):=by
   rw [hlu,hbb]
   unfold b3m c2w c2v c2u c2t
   have e:decide ((X9 u).length≤100)=!decide (100 < (X9 u).length):=by
    by_cases h:(X9 u).length≤100
    · have h':¬ 100 < (X9 u).length:=by omega
      simp [h,h']
    · have h':100 < (X9 u).length:=by omega
      simp [h,h']
   rw [e]
   cases W4 u.scheme<;>cases u.hasQ<;>cases u.hasF<;>cases decide (u.query=[])<;>cases decide (u.frag=[])<;>cases Y0 u.path [63,35]<;>cases Y0 u.query [35]<;>cases Y0 u.frag []<;>cases decide (100 < (X9 u).length)<;>rfl
  rw [hb,hlu2]
  cases (b || b3m u) with
  | true=>simp
  | false=>
   simp only [B0,I1,B2,H9,B3,x1,B1,I0,p9,D1,J5,J6,l5,w5,w6,o0,B4,w9,p6,H8,A9,w8,w7,G0,G1,a1i,a1j,Option.getD_some,Option.getD_none,E7,x7,u7,F7,u6,u0,F9,u1,F8,F6,F5,K2,z8,u4,F3,z6,u3,F2,E5,F4,z7,F0,t8,z1,F1,K4,K3,E6,E8,u2,E9,A0,u5,D4,q8,E4,E3,E2,J7,y8,s8,D9,y6,q9,D8,D2,E1,y7,D6,q7,y5,D7,J9,J8,D3,y4,t7,D5,y9,t6,M3,M2,N4,M4,M8,M6,M5,N3,M7,M9,N0,N1,N2,B7,B6,B5,O5,O6,C7,I2,x8,G5,A2,N6,x2,T2,P0,N7,Q2,Q4,Q3,T3,T4,L5,L7,L6,L8,L9,P9,A4,P8,G6,G7,G8,A5,a1o,H5,A8,T0,T1,K5,O7,O8,Option.map_some,Option.map_none,G9,A6,A1,u9,G3,G4,K7,K6,Q9,Q8,M1,H6,H7,M0,Q5,Q6,K8,v7,K9,v6,P4,H4,H3,p5,Q1,Q7,L4,P5,P7,P6,A3,C8,D0,C9,l9,Q0,T7,T6,P1,L2,X5,P2,v8,H1,H2,A7,H0,n0,x9,m8,y0,m0,N5,R0,R1,B8,B9,I4,I3,G2]
   refine j1 (fun h=>by cases h) (fun _=>?_)
   simp only [B0,I1,B2,H9,B3,x1,B1,I0,p9,D1,J5,J6,l5,w5,w6,o0,B4,w9,p6,H8,A9,w8,w7,G0,G1,a1i,a1j,Option.getD_some,Option.getD_none,E7,x7,u7,F7,u6,u0,F9,u1,F8,F6,F5,K2,z8,u4,F3,z6,u3,F2,E5,F4,z7,F0,t8,z1,F1,K4,K3,E6,E8,u2,E9,A0,u5,D4,q8,E4,E3,E2,J7,y8,s8,D9,y6,q9,D8,D2,E1,y7,D6,q7,y5,D7,J9,J8,D3,y4,t7,D5,y9,t6,M3,M2,N4,M4,M8,M6,M5,N3,M7,M9,N0,N1,N2,B7,B6,B5,O5,O6,C7,I2,x8,G5,A2,N6,x2,T2,P0,N7,Q2,Q4,Q3,T3,T4,L5,L7,L6,L8,L9,P9,A4,P8,G6,G7,G8,A5,a1o,H5,A8,T0,T1,K5,O7,O8,Option.map_some,Option.map_none,G9,A6,A1,u9,G3,G4,K7,K6,Q9,Q8,M1,H6,H7,M0,Q5,Q6,K8,v7,K9,v6,P4,H4,H3,p5,Q1,Q7,L4,P5,P7,P6,A3,C8,D0,C9,l9,Q0,T7,T6,P1,L2,X5,P2,v8,H1,H2,A7,H0,n0,x9,m8,y0,m0,N5,R0,R1,B8,B9,I4,I3,G2]
   exact b60 u hs st' h.e1 h.m1
 simp [i6,j3,j9,b8,f6,X7,tx,num,b9]
 refine b6 rfl rfl (.inl rfl) (b81 u.scheme hs.1) ?_
 have e3:(⟨#[]⟩:ByteArray)=bs []:=rfl
 cases b1:W4 u.scheme with
 | false=>
  simp [tx,num,b9]
  refine okops15 (b:=true) hs ⟨?_,?_⟩ ?_ (fun st' q1 q2=>hend st' q1 true q2 (by simp [b1]))
  · simp
  · simp [tx,num]
  · simp
 | true=>
  cases hq:u.hasQ with
  | true=>
   simp [tx,num,b9,hq]
   refine okops15 (b:=false) hs ⟨?_,?_⟩ ?_ (fun st' q1 q2=>hend st' q1 false q2 (by simp [b1,hq]))
   · simp
   · simp [tx,num,hq]
   · simp
  | false=>
   simp [tx,num,b9,hq,e3,I6]
   refine okops15 (b:=!decide (u.query=[])) hs ⟨?_,?_⟩ ?_ (fun st' q1 q2=>hend st' q1 _ q2 (by simp [b1,hq]))
   · simp
   · simp [tx,num,hq]
   · simp
end Go.Proofs
end
section
namespace Go.Proofs
open Go.PW Go.KP
attribute [local simp] RV.cells RV.one PV.cells PV.solid PV.one x6 j2 J4 I7 RV.ofCells elems PV.killL
variable [GF]
abbrev prs (r:LUrl×Bool):Kx (PExit→St→Prop):=⟨a1n [.c 2 true 9,.t 3] (a40 r)⟩
structure UP (st:St) (u:LUrl) (r:Tx):Prop where
 e2:st.env 2=.ptr 2 0
 e5:st.env 5=.ptr 5 0
 e6:st.env 6=.val (tx r)
 m2:st.mem 2=.box (i8 LUrl.zero)
 m5:st.mem 5=.box (i8 u)
theorem a3n (t:Tx) (k:Nat):List.drop k (List.take t.length t)=t.drop k:=by rw [List.take_length]
theorem a5e (u:LUrl) (hs:u.Small) (r:Tx) (st:St) (h:UP st u r):EC Tryz.prog ir200_from18 st (K:=prs (u,S2 u)):=by
 unfold ir200_from18
 obtain ⟨e2,e5,e6,m2,m5⟩:=h
 simp [e2,e5,m2,m5,i8,j2,tx,num]
 refine p7 rfl rfl (.inl rfl) (c2q u hs) ?_
 simp [e2,e5,m2,m5,i8,j2,tx,num]
 refine a6c (id:=2) ?_ ?_ ?_
 · simp [e2]
 · simp [e2,i8,tx,num]
 · simp
theorem a0s (st:St) (e2:st.env 2=.ptr 2 0) (m2:st.mem 2=.box (i8 LUrl.zero)) (e3:st.env 3=.val (.bool false)):a1n [.c 2 true 9,.t 3] (a40 (LUrl.zero,false)) .ret st:=
 a6c e2 m2 e3
def U1 (u:LUrl) (r:Tx):LUrl×Bool:=match a1y u.scheme r with
 | none=>(LUrl.zero,false)
 | some p=>({ u with port:=p },S2 { u with port:=p })
theorem c0d {t:Tx} {n:Int} (h:X3 t=some n):n≤1000000000000000000:=by
 obtain ⟨_,_,u,h1,h2,h3,h4⟩:=a5k h
 have:=b1j u h2
 have h5:V7 u < 10 ^ 18:=Nat.lt_of_lt_of_le this (Nat.pow_le_pow_right (by omega) h3)
 have h6:(10:Nat) ^ 18=1000000000000000000:=by decide
 rcases h4 with h4 | h4<;>omega
theorem b5j (u:LUrl) (hs:u.Small) (hp:u.port=0) (r:Tx) (hr:r.length < 1099511627776) (st:St) (h:UP st u r) (e4:st.env 4=.val (num (L3 r 58))):EC Tryz.prog ir200_from17 st (K:=prs (U1 u r)):=by
 unfold ir200_from17
 obtain ⟨e2,e5,e6,m2,m5⟩:=h
 have hle:=a0w r 58
 by_cases hc:58∈r
 · have hlt:=W7.2 hc
   have g1:((L3 r 58:Nat):Int) < (r.length:Int):=by omega
   have g2:IntKind.i64.wrap ((L3 r 58:Nat)+1:Int)=((L3 r 58+1:Nat):Int):=by rw [wrap_i64 (by omega) (by omega)];omega
   have g3:L3 r 58+1≤r.length:=by omega
   have g4:(0:Int)≤((L3 r 58:Nat):Int)+1:=by omega
   simp [e2,e4,e5,e6,m2,m5,tx,num,b9,g1,g2,g3,g4,S4,a3n,hlt]
   have hn:=b83 (C1 r 58) (by have:=Z0 r 58;omega)
   cases hnum:X3 (C1 r 58) with
   | none=>
    rw [hnum] at hn
    refine X6 rfl rfl (.inl rfl) hn ?_
    rw [show U1 u r=(LUrl.zero,false) by simp [U1,a1y,hc,hnum]]
    simp [e2,e4,e5,e6,m2,m5,tx,num,i8]
    refine a0s _ ?_ ?_ ?_
    · simp [e2]
    · simp [i8,LUrl.zero,tx,num,bs]
    · simp
   | some n=>
    have hn1:=c0d hnum
    rw [hnum] at hn
    refine X6 rfl rfl (.inl rfl) hn ?_
    by_cases hin:1≤n∧n≤65535
    · simp [e2,e4,e5,e6,m2,m5,tx,num,i8]
      refine b6 rfl rfl (.inl rfl) (U6 .i64 n 1 65535) ?_
      simp [e2,e4,e5,e6,m2,m5,tx,num,i8,hin]
      refine b6 rfl rfl (.inl rfl) (b3e u.scheme) ?_
      by_cases hu:n=a0h u.scheme
      · have e:U1 u r=(u,S2 u):=by
         have hl:a1y u.scheme r=some 0:=by
          simp only [a1y,hc,hnum,hin,if_true,and_self]
          rw [if_pos hu]
         have:({ u with port:=0 }:LUrl)=u:=by rw [← hp]
         simp only [U1,hl,this]
        rw [e]
        simp [e2,e4,e5,e6,m2,m5,tx,num,i8,hu]
        refine a5e u hs r _ ⟨?_,?_,?_,?_,?_⟩<;>simp [e2,e5,e6,m2,m5,i8,tx,num]
      · have e:U1 u r=({ u with port:=n },S2 { u with port:=n }):=by
         simp only [U1,a1y,hc,hnum,hin,if_true,and_self,hu,if_false]
        rw [e]
        simp [e2,e4,e5,e6,m2,m5,tx,num,i8,hu]
        refine a5e { u with port:=n } ?_ r _ ⟨?_,?_,?_,?_,?_⟩
        · exact ⟨hs.1,hs.2.1,hs.2.2.1,hs.2.2.2.1,hs.2.2.2.2.1,hs.2.2.2.2.2.1,by show n≤_;omega⟩
        all_goals simp [e2,e5,e6,m2,m5,i8,tx,num]
    · rw [show U1 u r=(LUrl.zero,false) by simp only [U1,a1y,hc,hnum,hin,if_true,if_false]]
      simp [e2,e4,e5,e6,m2,m5,tx,num,i8]
      refine b6 rfl rfl (.inl rfl) (U6 .i64 n 1 65535) ?_
      have hd:decide (1≤n∧n≤65535)=false:=decide_eq_false hin
      rw [hd]
      simp [e2,e4,e5,e6,m2,m5,tx,num,i8]
      refine a0s _ ?_ ?_ ?_
      · simp [e2]
      · simp [i8,LUrl.zero,tx,num,bs]
      · simp
 · have hge:L3 r 58=r.length:=by have:=mt W7.1 hc;omega
   have e:U1 u r=(u,S2 u):=by
    simp only [U1,a1y,hc,if_false]
    have:({ u with port:=0 }:LUrl)=u:=by rw [← hp]
    rw [this]
   rw [e]
   simp [e2,e4,e5,e6,m2,m5,tx,num,b9,hge]
   refine a5e u hs r _ ⟨?_,?_,?_,?_,?_⟩<;>simp [e2,e5,e6,m2,m5,i8,tx,num]
theorem a8t (sc us pa qu fr:Tx) (hq hf:Bool) (h1:sc.length < 1099511627776) (h2:us.length < 1099511627776) (h3:pa.length < 1099511627776) (h4:qu.length < 1099511627776) (h5:fr.length < 1099511627776) (r:Tx) (hr:r.length < 1099511627776) (st:St)
 (h:UP st ⟨sc,us,[],0,pa,qu,fr,hq,hf⟩ r):EC Tryz.prog ir200_from15 st (K:=prs (U1 ⟨sc,us,R7 (l0 r 58),0,pa,qu,fr,hq,hf⟩ r)):=by
 unfold ir200_from15
 obtain ⟨e2,e5,e6,m2,m5⟩:=h
 have hle:=a0w r 58
 simp [e2,e5,e6,m2,m5,tx,num,b9]
 refine b6 rfl rfl (.inl rfl) (a1k r 58 hr) ?_
 simp [e2,e5,e6,m2,m5,tx,num,b9,hle,S4]
 refine b6 rfl rfl (.inl rfl) (b3g (l0 r 58) (by have:=R9 r 58;omega)) ?_
 simp [e2,e5,e6,m2,m5,tx,num,b9,i8]
 refine b5j ⟨sc,us,R7 (l0 r 58),0,pa,qu,fr,hq,hf⟩ ?_ rfl r hr _ ⟨?_,?_,?_,?_,?_⟩ ?_
 · refine ⟨h1,h2,?_,h3,h4,h5,by show (0:Int)≤_;omega⟩
   have:=R9 r 58
   simp [R7];omega
 all_goals simp [e2,e5,e6,m2,m5,i8,tx,num]
theorem a8u (sc pa qu fr:Tx) (hq hf:Bool) (h1:sc.length < 1099511627776) (h3:pa.length < 1099511627776) (h4:qu.length < 1099511627776) (h5:fr.length < 1099511627776) (r:Tx) (hr:r.length < 1099511627776) (st:St)
 (h:UP st ⟨sc,[],[],0,pa,qu,fr,hq,hf⟩ r):EC Tryz.prog ir200_from14 st (K:=prs (U1 ⟨sc,if 64∈r then l0 r 64 else [],R7 (l0 (if 64∈r then C1 r 64 else r) 58),0,pa,qu,fr,hq,hf⟩ (if 64∈r then C1 r 64 else r))):=by
 unfold ir200_from14
 obtain ⟨e2,e5,e6,m2,m5⟩:=h
 have hle:=a0w r 64
 simp [e2,e5,e6,m2,m5,tx,num,b9]
 refine b6 rfl rfl (.inl rfl) (a1k r 64 hr) ?_
 by_cases hc:64∈r
 · have hlt:=W7.2 hc
   have g2:IntKind.i64.wrap ((L3 r 64:Nat)+1:Int)=((L3 r 64+1:Nat):Int):=by rw [wrap_i64 (by omega) (by omega)];omega
   have g3:L3 r 64+1≤r.length:=by omega
   have g4:(0:Int)≤((L3 r 64:Nat):Int)+1:=by omega
   simp [e2,e5,e6,m2,m5,tx,num,b9,i8,hlt,hle,g2,g3,g4,S4,a3n]
   have e:(if 64∈r then C1 r 64 else r)=C1 r 64:=if_pos hc
   rw [if_pos hc,e]
   refine a8t sc (l0 r 64) pa qu fr hq hf h1 (by have:=R9 r 64;omega) h3 h4 h5 (C1 r 64) (by have:=Z0 r 64;omega) _ ⟨?_,?_,?_,?_,?_⟩<;>simp [e2,e5,e6,m2,m5,i8,tx,num,l0,C1]
 · have hge:L3 r 64=r.length:=by have:=mt W7.1 hc;omega
   simp [e2,e5,e6,m2,m5,tx,num,b9,hge]
   have e:(if 64∈r then C1 r 64 else r)=r:=if_neg hc
   rw [if_neg hc,e]
   refine a8t sc [] pa qu fr hq hf h1 (by simp) h3 h4 h5 r hr _ ⟨?_,?_,?_,?_,?_⟩<;>simp [e2,e5,e6,m2,m5,i8,tx,num]
def b1h (sc pa qu fr:Tx) (hq hf:Bool) (r:Tx):LUrl×Bool:=
 U1 ⟨sc,if 64∈r then l0 r 64 else [],R7 (l0 (if 64∈r then C1 r 64 else r) 58),0,pa,qu,fr,hq,hf⟩ (if 64∈r then C1 r 64 else r)
theorem b5k (sc qu fr:Tx) (hq hf:Bool) (h1:sc.length < 1099511627776) (h4:qu.length < 1099511627776) (h5:fr.length < 1099511627776) (r:Tx) (hr:r.length < 1099511627776) (st:St)
 (h:UP st ⟨sc,[],[],0,r.drop (L3 r 47),qu,fr,hq,hf⟩ r) (e4:st.env 4=.val (num (L3 r 47))):EC Tryz.prog ir200_from12 st (K:=prs (b1h sc (if 47∈r then r.drop (L3 r 47) else [47]) qu fr hq hf (l0 r 47))):=by
 unfold ir200_from12
 obtain ⟨e2,e5,e6,m2,m5⟩:=h
 have hle:=a0w r 47
 have e3:(⟨#[]⟩:ByteArray)=bs []:=rfl
 by_cases hc:47∈r
 · have hlt:=W7.2 hc
   have hne:¬ r.drop (L3 r 47)=[]:=by
    intro e;have:=congrArg List.length e;simp at this;omega
   have hne2:¬ r.length≤L3 r 47:=by omega
   rw [if_pos hc]
   simp [e2,e4,e5,e6,m2,m5,tx,num,b9,i8,e3,I6,hne,hne2,hle,S4]
   refine a8u sc (r.drop (L3 r 47)) qu fr hq hf h1 (by simp;omega) h4 h5 (l0 r 47) (by have:=R9 r 47;omega) _ ⟨?_,?_,?_,?_,?_⟩<;>simp [e2,e5,e6,m2,m5,i8,tx,num,l0]
 · have hge:L3 r 47=r.length:=by have:=mt W7.1 hc;omega
   have e4':(⟨#[47]⟩:ByteArray)=bs [47]:=rfl
   rw [if_neg hc]
   simp [e2,e4,e5,e6,m2,m5,tx,num,b9,i8,e3,e4',I6,hge,S4]
   refine a8u sc [47] qu fr hq hf h1 (by simp) h4 h5 (l0 r 47) (by have:=R9 r 47;omega) _ ⟨?_,?_,?_,?_,?_⟩<;>simp [e2,e5,e6,m2,m5,i8,tx,num,l0,hge]
def a65 (sc qu fr:Tx) (hq hf:Bool) (r:Tx):LUrl×Bool:=b1h sc (if 47∈r then r.drop (L3 r 47) else [47]) qu fr hq hf (l0 r 47)
theorem a8v (sc qu fr:Tx) (hq hf:Bool) (h1:sc.length < 1099511627776) (h4:qu.length < 1099511627776) (h5:fr.length < 1099511627776) (r:Tx) (hr:r.length < 1099511627776) (st:St)
 (h:UP st ⟨sc,[],[],0,[],qu,fr,hq,hf⟩ r):EC Tryz.prog ir200_from10 st (K:=prs (a65 sc qu fr hq hf r)):=by
 unfold ir200_from10
 obtain ⟨e2,e5,e6,m2,m5⟩:=h
 have hle:=a0w r 47
 simp [e2,e5,e6,m2,m5,tx,num,b9]
 refine b6 rfl rfl (.inl rfl) (a1k r 47 hr) ?_
 simp [e2,e5,e6,m2,m5,tx,num,b9,hle,S4,i8,a3n]
 refine b5k sc qu fr hq hf h1 h4 h5 r hr _ ⟨?_,?_,?_,?_,?_⟩ ?_<;>simp [e2,e5,e6,m2,m5,i8,tx,num]
theorem b0l (sc fr:Tx) (hf:Bool) (h1:sc.length < 1099511627776) (h5:fr.length < 1099511627776) (r:Tx) (hr:r.length < 1099511627776) (st:St)
 (h:UP st ⟨sc,[],[],0,[],[],fr,false,hf⟩ r):EC Tryz.prog ir200_from9 st (K:=prs (a65 sc (C1 r 63) fr (decide (63∈r)) hf (l0 r 63))):=by
 unfold ir200_from9
 obtain ⟨e2,e5,e6,m2,m5⟩:=h
 have hle:=a0w r 63
 simp [e2,e5,e6,m2,m5,tx,num,b9]
 refine b6 rfl rfl (.inl rfl) (a1k r 63 hr) ?_
 by_cases hc:63∈r
 · have hlt:=W7.2 hc
   have g2:IntKind.i64.wrap ((L3 r 63:Nat)+1:Int)=((L3 r 63+1:Nat):Int):=by rw [wrap_i64 (by omega) (by omega)];omega
   have g3:L3 r 63+1≤r.length:=by omega
   have g4:(0:Int)≤((L3 r 63:Nat):Int)+1:=by omega
   simp [e2,e5,e6,m2,m5,tx,num,b9,i8,hlt,hle,g2,g3,g4,S4,a3n]
   rw [decide_eq_true hc]
   refine a8v sc (C1 r 63) fr true hf h1 (by have:=Z0 r 63;omega) h5 (l0 r 63) (by have:=R9 r 63;omega) _ ⟨?_,?_,?_,?_,?_⟩<;>simp [e2,e5,e6,m2,m5,i8,tx,num,l0,C1]
 · have hge:L3 r 63=r.length:=by have:=mt W7.1 hc;omega
   simp [e2,e5,e6,m2,m5,tx,num,b9,hge]
   rw [decide_eq_false hc,a07 hc,a70 hc]
   refine a8v sc [] fr false hf h1 (by simp) h5 r hr _ ⟨?_,?_,?_,?_,?_⟩<;>simp [e2,e5,e6,m2,m5,i8,tx,num]
theorem b7m (sc:Tx) (h1:sc.length < 1099511627776) (r:Tx) (hr:r.length < 1099511627776) (st:St)
 (h:UP st ⟨sc,[],[],0,[],[],[],false,false⟩ r):EC Tryz.prog ir200_from8 st (K:=prs (a4k sc r)):=by
 unfold ir200_from8
 obtain ⟨e2,e5,e6,m2,m5⟩:=h
 have hle:=a0w r 35
 have e:a4k sc r=a65 sc (C1 (l0 r 35) 63) (C1 r 35) (decide (63∈l0 r 35)) (decide (35∈r)) (l0 (l0 r 35) 63):=rfl
 rw [e]
 simp [e2,e5,e6,m2,m5,tx,num,b9]
 refine b6 rfl rfl (.inl rfl) (a1k r 35 hr) ?_
 by_cases hc:35∈r
 · have hlt:=W7.2 hc
   have g2:IntKind.i64.wrap ((L3 r 35:Nat)+1:Int)=((L3 r 35+1:Nat):Int):=by rw [wrap_i64 (by omega) (by omega)];omega
   have g3:L3 r 35+1≤r.length:=by omega
   have g4:(0:Int)≤((L3 r 35:Nat):Int)+1:=by omega
   simp [e2,e5,e6,m2,m5,tx,num,b9,i8,hlt,hle,g2,g3,g4,S4,a3n]
   rw [decide_eq_true hc]
   refine b0l sc (C1 r 35) true h1 (by have:=Z0 r 35;omega) (l0 r 35) (by have:=R9 r 35;omega) _ ⟨?_,?_,?_,?_,?_⟩<;>simp [e2,e5,e6,m2,m5,i8,tx,num,l0,C1]
 · have hge:L3 r 35=r.length:=by have:=mt W7.1 hc;omega
   simp [e2,e5,e6,m2,m5,tx,num,b9,hge]
   rw [decide_eq_false hc,a07 hc,a70 hc]
   refine b0l sc [] false h1 (by simp) r hr _ ⟨?_,?_,?_,?_,?_⟩<;>simp [e2,e5,e6,m2,m5,i8,tx,num]
theorem b7n (sc:Tx) (h1:sc.length < 1099511627776) (r:Tx) (hr:r.length < 1099511627776) (st:St)
 (h:UP st ⟨sc,[],[],0,[],[],[],false,false⟩ r):EC Tryz.prog ir200_from5 st (K:=prs (if a0f sc then if r.take 2=[47,47] then a4k sc (r.drop 2) else (LUrl.zero,false) else (⟨sc,[],[],0,l0 (l0 r 35) 63,[],[],false,false⟩,S2 ⟨sc,[],[],0,l0 (l0 r 35) 63,[],[],false,false⟩))):=by
 unfold ir200_from5
 obtain ⟨e2,e5,e6,m2,m5⟩:=h
 have e7:(⟨#[47,47]⟩:ByteArray)=bs [47,47]:=rfl
 simp [e2,e5,e6,m2,m5,tx,num,b9,i8]
 refine b6 rfl rfl (.inl rfl) (a6z sc) ?_
 by_cases hw:a0f sc=true
 · rw [if_pos hw]
   by_cases h2:r.length < 2
   · have h2':(r.length:Int) < 2:=by omega
     have ht:¬ r.take 2=[47,47]:=fun e=>by have:=congrArg List.length e;simp at this;omega
     rw [if_neg ht]
     simp [e2,e5,e6,m2,m5,tx,num,b9,i8,hw,h2']
     refine a0s _ ?_ ?_ ?_
     · simp [e2]
     · simp [i8,LUrl.zero,tx,num,bs]
     · simp
   · have h2':¬ (r.length:Int) < 2:=by omega
     have h2'':(2:Int)≤r.length:=by omega
     have h2n:2≤r.length:=by omega
     by_cases ht:r.take 2=[47,47]
     · rw [if_pos ht]
       simp [e2,e5,e6,m2,m5,tx,num,b9,i8,hw,h2',h2'',h2n,e7,S4,ht,a3n]
       refine b7m sc h1 (r.drop 2) (by simp;omega) _ ⟨?_,?_,?_,?_,?_⟩<;>simp [e2,e5,e6,m2,m5,i8,tx,num]
     · rw [if_neg ht]
       simp [e2,e5,e6,m2,m5,tx,num,b9,i8,hw,h2',h2'',h2n,e7,S4,I6,ht]
       refine a0s _ ?_ ?_ ?_
       · simp [e2]
       · simp [i8,LUrl.zero,tx,num,bs]
       · simp
 · rw [if_neg hw]
   have hl1:=a0w r 35
   have hl2:=a0w (l0 r 35) 63
   have hl3:=R9 r 35
   have hl4:=R9 (l0 r 35) 63
   simp [e2,e5,e6,m2,m5,tx,num,b9,i8,hw]
   refine b6 rfl rfl (.inl rfl) (a1k r 35 hr) ?_
   simp [e2,e5,e6,m2,m5,tx,num,b9,i8,hw,hl1,S4]
   refine b6 rfl rfl (.inl rfl) (a1k (l0 r 35) 63 (by omega)) ?_
   have hl2':L3 (l0 r 35) 63≤L3 r 35∧L3 (l0 r 35) 63≤r.length:=by
    refine ⟨?_,by omega⟩
    have:(l0 r 35).length≤L3 r 35:=by unfold l0;simp;omega
    omega
   have hl2i:((L3 (l0 r 35) 63:Nat):Int)≤(min (L3 r 35) r.length:Nat):=by omega
   simp [e2,e5,e6,m2,m5,tx,num,b9,i8,hw,hl1,hl2',S4,j2]
   refine p7 rfl rfl (.inl rfl) (c2q ⟨sc,[],[],0,l0 (l0 r 35) 63,[],[],false,false⟩ ⟨h1,by simp,by simp,by show (l0 (l0 r 35) 63).length < _;omega,by simp,by simp,by show (0:Int)≤_;omega⟩) ?_
   simp [e2,e5,e6,m2,m5,tx,num,b9,i8,hw,hl1,S4,j2]
   refine a6c (id:=2) ?_ ?_ ?_
   · simp [e2]
   · simp [i8,tx,num,l0]
   · simp
theorem b3f (t:Tx) (ht:t.length < 1099511627776):f8 Tryz.prog 200 [.val (tx t)] (.ret (a40 (C4 t)) []) []:=by
 refine i7 mixed ok200 rfl (fun _=>rfl) ?_
 unfold ir200
 rw [b7]
 have hle:=a0w t 58
 simp [i6,j3,j9,b8,f6,tx,num,b9]
 refine b6 rfl rfl (.inl rfl) (a1k t 58 ht) ?_
 by_cases hc:58∈t
 · have hlt:=W7.2 hc
   have hne:¬ ((L3 t 58:Nat):Int)=(t.length:Int):=by omega
   have hne':¬ L3 t 58=t.length:=by omega
   have g2:IntKind.i64.wrap ((L3 t 58:Nat)+1:Int)=((L3 t 58+1:Nat):Int):=by rw [wrap_i64 (by omega) (by omega)];omega
   have g3:L3 t 58+1≤t.length:=by omega
   have g4:(0:Int)≤((L3 t 58:Nat):Int)+1:=by omega
   simp [tx,num,b9,hlt,hle,hne,hne',S4]
   refine b6 rfl rfl (.inl rfl) (b3g (l0 t 58) (by have:=R9 t 58;omega)) ?_
   simp [tx,num,b9,hlt,hle,hne,hne',g2,g3,g4,S4,a3n]
   rw [show C4 t=(if a0f (R7 (l0 t 58)) then if (C1 t 58).take 2=[47,47] then a4k (R7 (l0 t 58)) ((C1 t 58).drop 2) else (LUrl.zero,false) else (⟨R7 (l0 t 58),[],[],0,l0 (l0 (C1 t 58) 35) 63,[],[],false,false⟩,S2 ⟨R7 (l0 t 58),[],[],0,l0 (l0 (C1 t 58) 35) 63,[],[],false,false⟩)) by unfold C4;rw [if_pos hc]]
   refine b7n (R7 (l0 t 58)) (by have:=R9 t 58;simp [R7];omega) (C1 t 58) (by have:=Z0 t 58;omega) _ ⟨?_,?_,?_,?_,?_⟩<;>simp [i8,tx,num,LUrl.zero,bs,C1]
 · have hge:L3 t 58=t.length:=by have:=mt W7.1 hc;omega
   rw [show C4 t=(LUrl.zero,false) by unfold C4;rw [if_neg hc]]
   simp [tx,num,b9,hge]
   refine a0s _ ?_ ?_ ?_
   · simp
   · simp [i8,LUrl.zero,tx,num,bs]
   · simp
end Go.Proofs
end
section
namespace Go.Proofs
open Go.PW Go.KP
attribute [local simp] RV.cells RV.one PV.cells PV.solid PV.one x6 j2 J4 I7 RV.ofCells elems PV.killL
variable [GF]
structure TO (st:St) (x:LTarget) (u:LUrl):Prop where
 e1:st.env 1=.ptr 1 0
 e3:st.env 3=.ptr 3 0
 m1:st.mem 1=.box [.val (tx x.url),.val (num x.prio),.val (num x.weight)]
 m3:st.mem 3=.box (i8 u)
section
variable {Ks:Kx (St→Prop)} {st:St} {x:LTarget} {u:LUrl} {b:Bool}
def tg35 (x:LTarget):Bool:=decide (1≤x.weight∧x.weight≤9)
theorem c5n (h:TO st x u) (hb:st.env 34=.val (.bool b)) (hK:∀ st',TO st' x u→st'.env 38=.val (.bool (b && tg35 x))→Ks.k st'):EX Tryz.prog ir231_o35 st (Ks:=Ks):=by
 unfold ir231_o35
 cases b with
 | false=>
  simp [hb]
  refine hK _ ⟨?_,?_,?_,?_⟩ ?_<;>simp [h.e1,h.e3,h.m1,h.m3]
 | true=>
  simp [hb,h.e1,h.m1,num]
  refine p7 rfl rfl (.inl rfl) (U6 .i64 x.weight 1 9) ?_
  simp [hb]
  refine hK _ ⟨?_,?_,?_,?_⟩ ?_<;>simp [h.e1,h.e3,h.m1,h.m3,tg35]
def tg30 (x:LTarget):Bool:=decide (1≤x.prio∧x.prio≤9) && tg35 x
theorem c5o (h:TO st x u) (hb:st.env 29=.val (.bool b)) (hK:∀ st',TO st' x u→st'.env 38=.val (.bool (b && tg30 x))→Ks.k st'):EX Tryz.prog ir231_o30 st (Ks:=Ks):=by
 unfold ir231_o30
 cases b with
 | false=>
  simp [hb]
  refine c5n (x:=x) (u:=u) (b:=false) ⟨?_,?_,?_,?_⟩ ?_ (fun st' q1 q2=>hK st' q1 (by simpa using q2))<;>simp [h.e1,h.e3,h.m1,h.m3]
 | true=>
  simp [hb,h.e1,h.m1,num]
  refine p7 rfl rfl (.inl rfl) (U6 .i64 x.prio 1 9) ?_
  simp [hb]
  refine c5n (x:=x) (u:=u) (b:=decide (1≤x.prio∧x.prio≤9)) ⟨?_,?_,?_,?_⟩ ?_ (fun st' q1 q2=>hK st' q1 (by rw [q2];simp [tg30]))<;>simp [h.e1,h.e3,h.m1,h.m3]
def tg23 (x:LTarget) (u:LUrl):Bool:=decide (X9 u=x.url) && tg30 x
theorem c5p (hs:u.Small) (h:TO st x u) (hb:st.env 22=.val (.bool b)) (hK:∀ st',TO st' x u→st'.env 38=.val (.bool (b && tg23 x u))→Ks.k st'):EX Tryz.prog ir231_o23 st (Ks:=Ks):=by
 unfold ir231_o23
 cases b with
 | false=>
  simp [hb]
  refine c5o (x:=x) (u:=u) (b:=false) ⟨?_,?_,?_,?_⟩ ?_ (fun st' q1 q2=>hK st' q1 (by simpa using q2))<;>simp [h.e1,h.e3,h.m1,h.m3]
 | true=>
  simp [hb,h.e1,h.m1,h.e3,h.m3,num,tx,i8,j2]
  refine p7 rfl rfl (.inl rfl) (a94 u hs) ?_
  simp [hb,h.e1,h.m1,num,tx,I6]
  refine c5o (x:=x) (u:=u) (b:=decide (X9 u=x.url)) ⟨?_,?_,?_,?_⟩ ?_ (fun st' q1 q2=>hK st' q1 (by rw [q2];simp [tg23]))<;>simp [h.e1,h.e3,h.m1,h.m3]
def tg18 (x:LTarget) (u:LUrl):Bool:=!u.hasF && tg23 x u
theorem c5q (hs:u.Small) (h:TO st x u) (hb:st.env 17=.val (.bool b)) (hK:∀ st',TO st' x u→st'.env 38=.val (.bool (b && tg18 x u))→Ks.k st'):EX Tryz.prog ir231_o18 st (Ks:=Ks):=by
 unfold ir231_o18
 cases b with
 | false=>
  simp [hb]
  refine c5p (x:=x) (u:=u) (b:=false) hs ⟨?_,?_,?_,?_⟩ ?_ (fun st' q1 q2=>hK st' q1 (by simpa using q2))<;>simp [h.e1,h.e3,h.m1,h.m3]
 | true=>
  simp [hb,h.e1,h.m1,h.e3,h.m3,num,tx,i8,j2]
  refine c5p (x:=x) (u:=u) (b:=!u.hasF) hs ⟨?_,?_,?_,?_⟩ ?_ (fun st' q1 q2=>hK st' q1 (by rw [q2];simp [tg18]))<;>simp [h.e1,h.e3,h.m1,h.m3,i8,tx,num]
end
theorem b01 (x:LTarget) (hx:x.url.length < 1099511627776):f8 Tryz.prog 231 [.val (j4 x)] (.ret (.val (.bool (P3 x))) []) []:=by
 refine i7 mixed ok231 rfl (fun _=>rfl) ?_
 unfold ir231
 rw [b7]
 have hs:=a84 hx
 simp [i6,j3,j9,b8,f6,j4,tx,num]
 have hp:=b3f x.url hx
 have e:P3 x=(((C4 x.url).2 && a0f (C4 x.url).1.scheme) && tg18 x (C4 x.url).1):=by
  unfold P3 tg18 tg23 tg30 tg35
  simp only [Bool.and_assoc]
 rw [e]
 generalize C4 x.url=r at *
 obtain ⟨u,ok⟩:=r
 dsimp only at *
 refine X6 rfl rfl (.inl rfl) hp ?_
 simp [i6,j3,j9,b8,f6,X7,tx,num]
 cases ok with
 | false=>
  simp
  refine c5q (x:=x) (u:=u) (b:=false) hs ⟨?_,?_,?_,?_⟩ ?_ (fun st' q1 q2=>?_)
  all_goals simp [i8,tx,num]
  simp [q2,B0,I1,B2,H9,B3,x1,B1,I0,p9,D1,J5,J6,l5,w5,w6,o0,B4,w9,p6,H8,A9,w8,w7,G0,G1,a1i,a1j,Option.getD_some,Option.getD_none,E7,x7,u7,F7,u6,u0,F9,u1,F8,F6,F5,K2,z8,u4,F3,z6,u3,F2,E5,F4,z7,F0,t8,z1,F1,K4,K3,E6,E8,u2,E9,A0,u5,D4,q8,E4,E3,E2,J7,y8,s8,D9,y6,q9,D8,D2,E1,y7,D6,q7,y5,D7,J9,J8,D3,y4,t7,D5,y9,t6,M3,M2,N4,M4,M8,M6,M5,N3,M7,M9,N0,N1,N2,B7,B6,B5,O5,O6,C7,I2,x8,G5,A2,N6,x2,T2,P0,N7,Q2,Q4,Q3,T3,T4,L5,L7,L6,L8,L9,P9,A4,P8,G6,G7,G8,A5,a1o,H5,A8,T0,T1,K5,O7,O8,Option.map_some,Option.map_none,G9,A6,A1,u9,G3,G4,K7,K6,Q9,Q8,M1,H6,H7,M0,Q5,Q6,K8,v7,K9,v6,P4,H4,H3,p5,Q1,Q7,L4,P5,P7,P6,A3,C8,D0,C9,l9,Q0,T7,T6,P1,L2,X5,P2,v8,H1,H2,A7,H0,n0,x9,m8,y0,m0,N5,R0,R1,B8,B9,I4,I3,G2]
 | true=>
  simp
  refine p7 rfl rfl (.inl rfl) (a6z u.scheme) ?_
  simp
  refine c5q (x:=x) (u:=u) (b:=a0f u.scheme) hs ⟨?_,?_,?_,?_⟩ ?_ (fun st' q1 q2=>?_)
  all_goals simp [i8,tx,num]
  simp [q2,B0,I1,B2,H9,B3,x1,B1,I0,p9,D1,J5,J6,l5,w5,w6,o0,B4,w9,p6,H8,A9,w8,w7,G0,G1,a1i,a1j,Option.getD_some,Option.getD_none,E7,x7,u7,F7,u6,u0,F9,u1,F8,F6,F5,K2,z8,u4,F3,z6,u3,F2,E5,F4,z7,F0,t8,z1,F1,K4,K3,E6,E8,u2,E9,A0,u5,D4,q8,E4,E3,E2,J7,y8,s8,D9,y6,q9,D8,D2,E1,y7,D6,q7,y5,D7,J9,J8,D3,y4,t7,D5,y9,t6,M3,M2,N4,M4,M8,M6,M5,N3,M7,M9,N0,N1,N2,B7,B6,B5,O5,O6,C7,I2,x8,G5,A2,N6,x2,T2,P0,N7,Q2,Q4,Q3,T3,T4,L5,L7,L6,L8,L9,P9,A4,P8,G6,G7,G8,A5,a1o,H5,A8,T0,T1,K5,O7,O8,Option.map_some,Option.map_none,G9,A6,A1,u9,G3,G4,K7,K6,Q9,Q8,M1,H6,H7,M0,Q5,Q6,K8,v7,K9,v6,P4,H4,H3,p5,Q1,Q7,L4,P5,P7,P6,A3,C8,D0,C9,l9,Q0,T7,T6,P1,L2,X5,P2,v8,H1,H2,A7,H0,n0,x9,m8,y0,m0,N5,R0,R1,B8,B9,I4,I3,G2]
def T5 (x:LPeer):List PV:=[.val (tx x.target.url),.val (num x.target.prio),.val (num x.target.weight),.val (num x.fails),.val (num x.retry),.val (.bool x.gone)]
structure PO (st:St) (l:List LPeer) (i:Nat) (x:LPeer):Prop where
 e0:st.env 0=.val (O1 l)
 e3:st.env 3=.val (num i)
 e4:st.env 4=.ptr 4 0
 m4:st.mem 4=.box (T5 x)
section
variable {Ks:Kx (St→Prop)} {kx:Kx (RV→St→Prop)} {st:St} {l:List LPeer} {i:Nat} {x:LPeer} {b:Bool}
def b30 (x:LPeer):Bool:=decide (x.fails=0) && !decide (x.retry=0)
theorem c54 (h:PO st l i x) (hb:st.env 35=.val (.bool b)) (hK:∀ st',PO st' l i x→st'.env 44=.val (.bool (b || b30 x))→Ks.k st'):EO Tryz.prog ir171_o36 st (Ks:=Ks) (kx:=kx):=by
 unfold ir171_o36
 cases b with
 | true=>
  simp [hb]
  refine hK _ ⟨?_,?_,?_,?_⟩ ?_<;>simp [h.e0,h.e3,h.e4,h.m4]
 | false=>
  by_cases h0:x.fails=0
  · by_cases h1:x.retry=0
    · simp [hb,h.e4,h.m4,T5,num,h0,h1]
      refine hK _ ⟨?_,?_,?_,?_⟩ ?_<;>simp [h.e0,h.e3,h.e4,h.m4,b30,h0,h1]
    · simp [hb,h.e4,h.m4,T5,num,h0,h1]
      refine hK _ ⟨?_,?_,?_,?_⟩ ?_<;>simp [h.e0,h.e3,h.e4,h.m4,b30,h0,h1]
  · simp [hb,h.e4,h.m4,T5,num,h0]
    refine hK _ ⟨?_,?_,?_,?_⟩ ?_<;>simp [h.e0,h.e3,h.e4,h.m4,b30,h0]
def c3j (x:LPeer):Bool:=!decide (0≤x.retry∧x.retry≤1000032) || b30 x
theorem c55 (h:PO st l i x) (hb:st.env 29=.val (.bool b)) (hK:∀ st',PO st' l i x→st'.env 44=.val (.bool (b || c3j x))→Ks.k st'):EO Tryz.prog ir171_o30 st (Ks:=Ks) (kx:=kx):=by
 unfold ir171_o30
 cases b with
 | true=>
  simp [hb]
  refine c54 (l:=l) (i:=i) (x:=x) (b:=true) ⟨?_,?_,?_,?_⟩ ?_ (fun st' q1 q2=>hK st' q1 (by simpa using q2))<;>simp [h.e0,h.e3,h.e4,h.m4]
 | false=>
  simp [hb,h.e4,h.m4,T5,num]
  refine b6 rfl rfl (.inl rfl) (U6 .i64 x.retry 0 1000032) ?_
  simp [hb]
  refine c54 (l:=l) (i:=i) (x:=x) (b:=!decide (0≤x.retry∧x.retry≤1000032)) ⟨?_,?_,?_,?_⟩ ?_ (fun st' q1 q2=>hK st' q1 (by rw [q2];simp [c3j]))<;>simp [h.e0,h.e3,h.e4,h.m4]
def b9y (x:LPeer):Bool:=!decide (0≤x.fails∧x.fails≤1000000) || c3j x
theorem pops24 (h:PO st l i x) (hb:st.env 23=.val (.bool b)) (hK:∀ st',PO st' l i x→st'.env 44=.val (.bool (b || b9y x))→Ks.k st'):EO Tryz.prog ir171_o24 st (Ks:=Ks) (kx:=kx):=by
 unfold ir171_o24
 cases b with
 | true=>
  simp [hb]
  refine c55 (l:=l) (i:=i) (x:=x) (b:=true) ⟨?_,?_,?_,?_⟩ ?_ (fun st' q1 q2=>hK st' q1 (by simpa using q2))<;>simp [h.e0,h.e3,h.e4,h.m4]
 | false=>
  simp [hb,h.e4,h.m4,T5,num]
  refine b6 rfl rfl (.inl rfl) (U6 .i64 x.fails 0 1000000) ?_
  simp [hb]
  refine c55 (l:=l) (i:=i) (x:=x) (b:=!decide (0≤x.fails∧x.fails≤1000000)) ⟨?_,?_,?_,?_⟩ ?_ (fun st' q1 q2=>hK st' q1 (by rw [q2];simp [b9y]))<;>simp [h.e0,h.e3,h.e4,h.m4]
end
theorem b2h (x:LPeer):a3w x=!(!P3 x.target || b9y x):=by
 unfold a3w b9y c3j b30
 cases P3 x.target<;>cases decide (0≤x.fails∧x.fails≤1000000)<;>cases decide (0≤x.retry∧x.retry≤1000032)<;>by_cases h:x.retry=0<;>simp [h]
theorem a8s {l:List LPeer} {j:Nat} (h:j < l.length):((l.map C6).getD j .nilptr)=C6 l[j]:=by
 rw [a3y _ _ _ (by simpa using h)];simp
theorem b7k {K:Kx (PExit→St→Prop)} {st:St} {l:List LPeer} {i:Nat} {x:LPeer} (hi:i < l.length) (hl:l.length < 1099511627776) (h:PO st l i x) (h5:st.env 5=.val (num 0))
 (hK:∀ st',PO st' l i x→x.target.url∉(l.take i).map (fun p=>p.target.url)→K.k .normal st') (hR:∀ st',st'.env 2=.val (.bool false)→x.target.url∈(l.take i).map (fun p=>p.target.url)→K.k .ret st') :
 EC Tryz.prog ir171_s45 st (K:=K):=by
 unfold ir171_s45
 simp only [B0,I1,B2,H9,B3,x1,B1,I0,p9,D1,J5,J6,l5,w5,w6,o0,B4,w9,p6,H8,A9,w8,w7,G0,G1,a1i,a1j,Option.getD_some,Option.getD_none,E7,x7,u7,F7,u6,u0,F9,u1,F8,F6,F5,K2,z8,u4,F3,z6,u3,F2,E5,F4,z7,F0,t8,z1,F1,K4,K3,E6,E8,u2,E9,A0,u5,D4,q8,E4,E3,E2,J7,y8,s8,D9,y6,q9,D8,D2,E1,y7,D6,q7,y5,D7,J9,J8,D3,y4,t7,D5,y9,t6,M3,M2,N4,M4,M8,M6,M5,N3,M7,M9,N0,N1,N2,B7,B6,B5,O5,O6,C7,I2,x8,G5,A2,N6,x2,T2,P0,N7,Q2,Q4,Q3,T3,T4,L5,L7,L6,L8,L9,P9,A4,P8,G6,G7,G8,A5,a1o,H5,A8,T0,T1,K5,O7,O8,Option.map_some,Option.map_none,G9,A6,A1,u9,G3,G4,K7,K6,Q9,Q8,M1,H6,H7,M0,Q5,Q6,K8,v7,K9,v6,P4,H4,H3,p5,Q1,Q7,L4,P5,P7,P6,A3,C8,D0,C9,l9,Q0,T7,T6,P1,L2,X5,P2,v8,H1,H2,A7,H0,n0,x9,m8,y0,m0,N5,R0,R1,B8,B9,I4,I3,G2]
 refine l3 (X:=Nat) (fun j=>⟨x5 [(0,.val (O1 l)),(3,.val (num i)),(4,.ptr 4 0),(5,.val (num j))],x4 [(4,.box (T5 x))]⟩) (fun j=>j≤i∧∀ k (hk:k < j) (hk':k < l.length),l[k].target.url≠x.target.url) (fun j=>i - j) 0 (Le.mk _ _ ?_ ?_) ?_ ?_
 · simp [h.e0,h.e3,h.e4,h5]
 · simp [h.m4]
 · simp
 · rintro j ⟨hj,hne⟩
   unfold ir171_l45
   simp [num,O1,T5]
   refine j1 (fun h1=>?_) (fun h1=>?_)
   · have hjl:j < l.length:=by omega
     have e:=a8s hjl
     rw [List.getD_eq_getElem?_getD] at e
     simp [num,O1,T5,e,h1,hjl,C6,tx,I6]
     by_cases hu:l[j].target.url=x.target.url
     · refine j1 (fun _=>?_) (fun h=>absurd hu h)
       simp
       refine hR _ (by simp) ?_
       rw [List.mem_map]
       exact ⟨l[j],by rw [List.mem_take_iff_getElem];exact ⟨j,by omega,rfl⟩,hu⟩
     · refine j1 (fun h=>absurd h hu) (fun _=>?_)
       simp
       refine LoopNext.mk (j+1) ⟨by omega,fun k hk hk'=>?_⟩ (by omega) (Le.mk _ _ ?_ ?_)
       · by_cases e:k=j
         · subst e;exact hu
         · exact hne k (by omega) hk'
       · simp [num,O1];rw [wrap_i64 (by omega) (by omega)]
       · simp [T5,num,tx]
   · have e:j=i:=by omega
     simp
     refine hK _ ⟨?_,?_,?_,?_⟩ ?_
     · simp [O1]
     · simp [num]
     · simp
     · simp [T5,num]
     · intro hm
       rw [List.mem_map] at hm
       obtain ⟨p,hp,hpu⟩:=hm
       rw [List.mem_take_iff_getElem] at hp
       obtain ⟨k,hk,rfl⟩:=hp
       exact hne k (by omega) (by omega) hpu
theorem c_l07OK (l:List LPeer) (hl:l.length < 1099511627776) (hs:∀ p∈l,p.target.url.length < 1099511627776):f8 Tryz.prog 171 [.val (O1 l)] (.ret (.val (.bool (Z5 l))) []) []:=by
 refine i7 mixed ok171 rfl (fun _=>rfl) ?_
 unfold ir171
 rw [b7]
 by_cases h4:4 < l.length
 · have h4':(4:Int) < l.length:=by omega
   have e:Z5 l=false:=by
    unfold Z5
    rw [decide_eq_false (by omega)];rfl
   simp [i6,j3,j9,b8,f6,O1,h4',e]
 · have h4':¬ (4:Int) < l.length:=by omega
   have e:Z5 l=(l.all a3w && U2 [] l):=by
    unfold Z5
    rw [decide_eq_true (by omega)];rfl
   rw [e]
   simp [i6,j3,j9,b8,f6,O1,h4']
   refine l3 (X:=Nat) (fun i=>⟨x5 [(0,.val (O1 l)),(3,.val (num i))],x4 []⟩) (fun i=>i≤l.length∧(l.take i).all a3w=true∧U2 [] (l.take i)=true) (fun i=>l.length - i) 0 (Le.mk _ _ ?_ ?_) ?_ ?_
   · simp [upd,O1,num]
   · simp
   · simp [U2]
   · rintro i ⟨hi,ha,hu⟩
     unfold ir171_l9
     simp [num,O1]
     refine j1 (fun h1=>?_) (fun h1=>?_)
     · have e1:=a8s h1
       rw [List.getD_eq_getElem?_getD] at e1
       simp [num,O1,h1,e1,C6,tx]
       unfold ir171_s19
       simp [num,O1,j2,tx]
       refine b6 rfl rfl (.inl rfl) (b01 l[i].target (hs _ (List.getElem_mem h1))) ?_
       simp
       refine pops24 (l:=l) (i:=i) (x:=l[i]) (b:=!P3 l[i].target) ⟨?_,?_,?_,?_⟩ ?_ (fun st' q1 q2=>?_)
       · simp [O1]
       · simp [num]
       · simp
       · simp [T5,num,tx]
       · simp
       · have hpk:=b2h l[i]
         simp only [B0,I1,B2,H9,B3,x1,B1,I0,p9,D1,J5,J6,l5,w5,w6,o0,B4,w9,p6,H8,A9,w8,w7,G0,G1,a1i,a1j,Option.getD_some,Option.getD_none,E7,x7,u7,F7,u6,u0,F9,u1,F8,F6,F5,K2,z8,u4,F3,z6,u3,F2,E5,F4,z7,F0,t8,z1,F1,K4,K3,E6,E8,u2,E9,A0,u5,D4,q8,E4,E3,E2,J7,y8,s8,D9,y6,q9,D8,D2,E1,y7,D6,q7,y5,D7,J9,J8,D3,y4,t7,D5,y9,t6,M3,M2,N4,M4,M8,M6,M5,N3,M7,M9,N0,N1,N2,B7,B6,B5,O5,O6,C7,I2,x8,G5,A2,N6,x2,T2,P0,N7,Q2,Q4,Q3,T3,T4,L5,L7,L6,L8,L9,P9,A4,P8,G6,G7,G8,A5,a1o,H5,A8,T0,T1,K5,O7,O8,Option.map_some,Option.map_none,G9,A6,A1,u9,G3,G4,K7,K6,Q9,Q8,M1,H6,H7,M0,Q5,Q6,K8,v7,K9,v6,P4,H4,H3,p5,Q1,Q7,L4,P5,P7,P6,A3,C8,D0,C9,l9,Q0,T7,T6,P1,L2,X5,P2,v8,H1,H2,A7,H0,n0,x9,m8,y0,m0,N5,R0,R1,B8,B9,I4,I3,G2,q2]
         cases hb:(!P3 l[i].target || b9y l[i]) with
         | true=>
          rw [hb] at hpk
          have:l.all a3w=false:=by rw [List.all_eq_false];exact ⟨l[i],List.getElem_mem h1,by rw [hpk];simp⟩
          rw [this]
          simp
         | false=>
          rw [hb] at hpk
          refine j1 (fun h=>by cases h) (fun _=>?_)
          simp only [B0,I1,B2,H9,B3,x1,B1,I0,p9,D1,J5,J6,l5,w5,w6,o0,B4,w9,p6,H8,A9,w8,w7,G0,G1,a1i,a1j,Option.getD_some,Option.getD_none,E7,x7,u7,F7,u6,u0,F9,u1,F8,F6,F5,K2,z8,u4,F3,z6,u3,F2,E5,F4,z7,F0,t8,z1,F1,K4,K3,E6,E8,u2,E9,A0,u5,D4,q8,E4,E3,E2,J7,y8,s8,D9,y6,q9,D8,D2,E1,y7,D6,q7,y5,D7,J9,J8,D3,y4,t7,D5,y9,t6,M3,M2,N4,M4,M8,M6,M5,N3,M7,M9,N0,N1,N2,B7,B6,B5,O5,O6,C7,I2,x8,G5,A2,N6,x2,T2,P0,N7,Q2,Q4,Q3,T3,T4,L5,L7,L6,L8,L9,P9,A4,P8,G6,G7,G8,A5,a1o,H5,A8,T0,T1,K5,O7,O8,Option.map_some,Option.map_none,G9,A6,A1,u9,G3,G4,K7,K6,Q9,Q8,M1,H6,H7,M0,Q5,Q6,K8,v7,K9,v6,P4,H4,H3,p5,Q1,Q7,L4,P5,P7,P6,A3,C8,D0,C9,l9,Q0,T7,T6,P1,L2,X5,P2,v8,H1,H2,A7,H0,n0,x9,m8,y0,m0,N5,R0,R1,B8,B9,I4,I3,G2]
          refine b7k (x:=l[i]) h1 hl ⟨?_,?_,?_,?_⟩ ?_ (fun st'' r1 r2=>?_) (fun st'' r1 r2=>?_)
          · simp [q1.e0]
          · simp [q1.e3]
          · simp [q1.e4]
          · simp [q1.m4]
          · simp [num]
          · simp [r1.e3,num]
            refine LoopNext.mk (i+1) ⟨by omega,?_,?_⟩ (by omega) (Le.mk _ _ ?_ ?_)
            · rw [S0 _ _ _ h1,ha,hpk];rfl
            · rw [a5i l i h1,hu,decide_eq_true r2];rfl
            · simp [r1.e0,num,O1];rw [wrap_i64 (by omega) (by omega)]
            · simp
          · have:U2 [] l=false:=a2y l (i+1) (by rw [a5i l i h1,hu,decide_eq_false (fun h=>h r2)];rfl)
            rw [this]
            simp [r1]
     · have e1:i=l.length:=by omega
       subst e1
       rw [List.take_length] at ha hu
       rw [ha,hu]
       simp
end Go.Proofs
end
section
namespace Go.Proofs
open Go.PW Go.KP
variable [GF]
theorem b02 (c:UInt8):f8 Tryz.prog 234 [.val (rvb c)] (.ret (.val (.bool (a08 c))) []) []:=by
 refine i7 mixed ok234 rfl (fun _=>rfl) ?_
 unfold ir234
 rw [b7]
 have e1:((97:Int)≤c.toNat)↔97≤c.toNat:=by omega
 have e2:((c.toNat:Int)≤122)↔c.toNat≤122:=by omega
 have e3:((65:Int)≤c.toNat)↔65≤c.toNat:=by omega
 have e4:((c.toNat:Int)≤90)↔c.toNat≤90:=by omega
 have e5:((c.toNat:Int)=95)↔c.toNat=95:=by omega
 by_cases h1:97≤c.toNat<;>by_cases h2:c.toNat≤122<;>by_cases h3:65≤c.toNat<;>by_cases h4:c.toNat≤90<;>by_cases h5:c.toNat=95<;>first | (exfalso;omega) | simp [i6,j3,j9,b8,f6,rvb,a08,O4,isUp,e1,e2,e3,e4,e5,h1,h2,h3,h4,h5]
theorem a4m {c:UInt8} (h:a08 c=true):a2z c=true:=by simp [a2z,h]
theorem a95 (t:Tx) (ht:t.length < 1099511627776):f8 Tryz.prog 173 [.val (tx t)] (.ret (.val (.bool (a0z t))) []) []:=by
 refine i7 mixed ok173 rfl (fun _=>rfl) ?_
 unfold ir173
 rw [b7]
 by_cases h1:t.length < 1
 · have:a0z t=false:=by unfold a0z;rw [decide_eq_false (by omega)];rfl
   have h1':(t.length:Int) < 1:=by omega
   simp [i6,j3,j9,b8,f6,tx,b9,h1',this]
 by_cases h2:12 < t.length
 · have h1':¬ (t.length:Int) < 1:=by omega
   have h2':(12:Int) < t.length:=by omega
   have:a0z t=false:=by unfold a0z;rw [decide_eq_false (by omega)];rfl
   simp [i6,j3,j9,b8,f6,tx,b9,h1',h2',this]
 have h1':¬ (t.length:Int) < 1:=by omega
 have h2':¬ (12:Int) < t.length:=by omega
 have h0:0 < t.length:=by omega
 have hw:a0z t=X8 a08 a2z t:=by unfold a0z;rw [decide_eq_true (by omega)];rfl
 simp [i6,j3,j9,b8,f6,tx,b9,h1',h2',j6,h0]
 refine b6 rfl rfl (.inl rfl) (b02 t[0]) ?_
 cases hl:a08 t[0] with
 | false=>
  have:a0z t=false:=by rw [hw];exact a1z t 0 h0 (by rw [if_pos rfl];exact hl)
  simp [this]
 | true=>
  have hst:=a2t (p:=a08) (q:=a2z) (fun _ h=>a4m h) t 0 h0
  simp
  refine l3 (X:=Nat) (fun i=>⟨x5 [(0,.val (.str (bs t))),(3,.val (.int .i64 i))],x4 []⟩) (fun i=>1≤i∧i≤t.length∧X8 a08 a2z (t.take i)=true) (fun i=>t.length - i) 1 (Le.mk _ _ ?_ ?_) ?_ ?_
  · simp [upd]
  · simp
  · refine ⟨Nat.le_refl _,h0,?_⟩
    rw [hst,if_pos rfl,hl];simp [X8]
  · rintro i ⟨hi1,hi,hall⟩
    have hi0:i≠0:=by omega
    simp [b9,j6]
    refine j1 (fun h3=>?_) (fun h3=>?_)
    · have hstep:=a2t (p:=a08) (q:=a2z) (fun _ h=>a4m h) t i h3
      rw [hall,Bool.true_and,if_neg hi0] at hstep
      have C2:=a1z (p:=a08) (q:=a2z) t i h3
      rw [if_neg hi0] at C2
      simp [b9,j6,h3]
      refine b6 rfl rfl (.inl rfl) (b02 t[i]) ?_
      cases hlt:a08 t[i] with
      | true=>
       simp
       refine LoopNext.mk (i+1) ⟨by omega,by omega,by rw [hstep];exact a4m hlt⟩ (by omega) (Le.mk _ _ ?_ ?_)
       · simp;exact wrap_i64 (by omega) (by omega)
       · simp
      | false=>
       simp [b9,j6,h3]
       refine b6 rfl rfl (.inl rfl) (a4d t[i]) ?_
       cases hd:O0 t[i] with
       | true=>
        simp
        refine LoopNext.mk (i+1) ⟨by omega,by omega,by rw [hstep];simp [a2z,hd]⟩ (by omega) (Le.mk _ _ ?_ ?_)
        · simp;exact wrap_i64 (by omega) (by omega)
        · simp
       | false=>
        have:a0z t=false:=by rw [hw];exact C2 (by simp [a2z,hd,hlt])
        simp [this]
    · have e:i=t.length:=by omega
      subst e
      rw [List.take_length] at hall
      simp [hw,hall]
end Go.Proofs
end
