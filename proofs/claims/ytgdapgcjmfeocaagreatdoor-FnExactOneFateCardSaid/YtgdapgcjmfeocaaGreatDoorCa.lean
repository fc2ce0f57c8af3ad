/- Ca: merged out of KSa, KSb, KSc, KSd, KSe, KSr. -/
import Derived.Test.YtgdapgcjmfeocaaGreatDoorBa
import Derived.Test.YtgdapgcjmfeocaaGreatDoorAc
set_option linter.unusedSectionVars false
set_option linter.unusedSimpArgs false
set_option linter.unusedVariables false
set_option maxRecDepth 100000
section
namespace Go.Proofs
open Go.PW Go.KP
attribute [local simp] RV.cells RV.one PV.cells PV.solid PV.one t8 f9 H0 A5 RV.ofCells elems PV.killL
theorem mixed:Tryz.prog.follows .mixedOrders=true:=by kernel_rfl
variable [GF]
theorem S6 (k:IntKind) (a lo hi:Int):d8 Tryz.prog 56 [.val (.int k a),.val (.int k lo),.val (.int k hi)] (.ret (.val (.bool (decide (lo≤a∧a≤hi)))) []) []:=by
 refine f5 mixed ok56 rfl (fun _=>rfl) ?_
 unfold ir56
 rw [b7]
 by_cases h:lo≤a
 · simp [d9,i6,j6,b8,d7,h]
 · simp [d9,i6,j6,b8,d7,h]
theorem a06 (t:Tx) (c:UInt8) (ht:t.length < 1099511627776):d8 Tryz.prog 215 [.val (tx t),.val (rvb c)] (.ret (.val (num (J0 t c))) []) []:=by
 refine f5 mixed ok215 rfl (fun _=>rfl) ?_
 unfold ir215
 rw [b7]
 simp only [y5,G3,y7,G1,y8,t6,y6,G2,m8,B2,H6,H7,k6,p9,q7,l4,y9,s8,l6,G0,y4,q9,q8,E1,E3,a04,a05,Option.getD_some,Option.getD_none,C7,u2,o9,D7,o8,o2,D9,o3,D8,D6,D5,I1,w9,o6,D3,w7,o5,D2,C5,D4,w8,D0,o1,w6,D1,I3,I2,C6,C8,o4,C9,x1,o7,B5,n5,C4,C3,C2,H8,v8,n7,C0,v6,n6,B9,B3,C1,v7,B7,n0,u9,B8,I0,H9,B4,u7,n9,B6,w5,n8,K2,J9,L5,K3,K7,K5,K4,L4,K6,K8,K9,L2,L3,z7,z6,z1,M8,M9,A8,G4,u3,E7,x3,L7,t7,R5,N2,M0,O4,O6,O5,R6,R7,J2,J4,J3,J5,J6,O1,x6,O0,E8,E9,F0,x7,a09,F7,y0,R3,R4,I4,N0,N1,Option.map_some,Option.map_none,F1,x8,x2,p5,E5,E6,I6,I5,P1,P0,J8,F8,F9,J7,O7,O8,I7,p7,I8,p6,N6,F6,F5,l5,O3,O9,J1,N7,N9,N8,x5,A9,B1,B0,l0,O2,S0,R9,N3,I9,V3,N4,p8,F3,F4,x9,F2,l3,u5,l2,u6,l1,L6,P2,P3,z8,A0,G6,G5,E4,d9,i6,j6,b8,d7,tx,rvb,num]
 refine j7 (X:=Nat) (fun i=>⟨l8 [(0,.val (.str (bs t))),(1,.val (.int .u8 c.toNat)),(5,.val (.int .i64 i))],l9 []⟩) (fun i=>i≤t.length∧∀ k,k < i→t.getD k 0≠c) (fun i=>t.length - i) 0 (Le.mk _ _ ?_ ?_) ?_ ?_
 · simp [upd]
 · simp
 · simp
 · rintro i ⟨hi,hne⟩
   simp [b9,j4,u8_eq]
   refine f6 (fun h1=>?_) (fun h1=>?_)
   · simp [b9,j4,u8_eq,h1]
     refine f6 (fun h2=>?_) (fun h2=>?_)
     · simp
       rw [b75 t c i hi hne (.inr (by rw [a3p _ _ _ h1];exact h2))];rfl
     · simp
       refine LoopNext.mk (i+1) ⟨by omega,fun k hk=>?_⟩ (by omega) (Le.mk _ _ ?_ ?_)
       · by_cases e:k=i
         · subst e;simpa [List.getElem?_eq_getElem h1] using h2
         · simpa using hne k (by omega)
       · simp [A8,u3];rw [wrap_i64 (by omega) (by omega)]
       · simp
   · have e:i=t.length:=by omega
     simp [b9]
     rw [b75 t c i hi hne (.inl e),e];rfl
theorem a6x (t:Tx):d8 Tryz.prog 192 [.val (tx t)] (.ret (.val (.bool (Z1 t))) []) []:=by
 refine f5 mixed ok192 rfl (fun _=>rfl) ?_
 unfold ir192
 rw [b7]
 have e1:(⟨#[104,116,116,112]⟩:ByteArray)=bs a5r:=rfl
 have e2:(⟨#[104,116,116,112,115]⟩:ByteArray)=bs a7z:=rfl
 by_cases h:t=a5r
 · simp [d9,i6,j6,b8,d7,tx,e1,e2,G9,Z1,h]
 · by_cases h':t=a7z
   · subst h'
     simp [d9,i6,j6,b8,d7,tx,e1,e2,G9,Z1,show ¬ a7z=a5r by decide]
   · simp [d9,i6,j6,b8,d7,tx,e1,e2,G9,Z1,h,h']
theorem b3k (t:Tx):d8 Tryz.prog 219 [.val (tx t)] (.ret (.val (num (Z3 t))) []) []:=by
 refine f5 mixed ok219 rfl (fun _=>rfl) ?_
 unfold ir219
 rw [b7]
 have e1:(⟨#[104,116,116,112]⟩:ByteArray)=bs a5r:=rfl
 by_cases h:t=a5r
 · simp [d9,i6,j6,b8,d7,tx,e1,G9,Z3,h,num]
 · simp [d9,i6,j6,b8,d7,tx,e1,G9,Z3,h,num]
theorem a32 (c:UInt8):d8 Tryz.prog 154 [.val (rvb c)] (.ret (.val (.bool (M3 c))) []) []:=by
 refine f5 mixed ok154 rfl (fun _=>rfl) ?_
 unfold ir154
 rw [b7]
 have e1:((48:Int)≤c.toNat)↔48≤c.toNat:=by omega
 have e2:((c.toNat:Int)≤57)↔c.toNat≤57:=by omega
 by_cases h:48≤c.toNat
 · simp [d9,i6,j6,b8,d7,rvb,M3,h,e1,e2]
 · simp [d9,i6,j6,b8,d7,rvb,M3,h,e1,e2]
theorem c0q {c:UInt8} (h1:65≤c.toNat) (h2:c.toNat≤90):(c.toNat:Int)+32=((c+32).toNat:Int):=by
 rw [UInt8.toNat_add]
 simp
 omega
theorem b3m (t:Tx) (ht:t.length < 1099511627776):d8 Tryz.prog 216 [.val (tx t)] (.ret (.val (tx (Q0 t))) []) []:=by
 refine f5 mixed ok216 rfl (fun _=>rfl) ?_
 unfold ir216
 rw [b7]
 simp only [y5,G3,y7,G1,y8,t6,y6,G2,m8,B2,H6,H7,k6,p9,q7,l4,y9,s8,l6,G0,y4,q9,q8,E1,E3,a04,a05,Option.getD_some,Option.getD_none,C7,u2,o9,D7,o8,o2,D9,o3,D8,D6,D5,I1,w9,o6,D3,w7,o5,D2,C5,D4,w8,D0,o1,w6,D1,I3,I2,C6,C8,o4,C9,x1,o7,B5,n5,C4,C3,C2,H8,v8,n7,C0,v6,n6,B9,B3,C1,v7,B7,n0,u9,B8,I0,H9,B4,u7,n9,B6,w5,n8,K2,J9,L5,K3,K7,K5,K4,L4,K6,K8,K9,L2,L3,z7,z6,z1,M8,M9,A8,G4,u3,E7,x3,L7,t7,R5,N2,M0,O4,O6,O5,R6,R7,J2,J4,J3,J5,J6,O1,x6,O0,E8,E9,F0,x7,a09,F7,y0,R3,R4,I4,N0,N1,Option.map_some,Option.map_none,F1,x8,x2,p5,E5,E6,I6,I5,P1,P0,J8,F8,F9,J7,O7,O8,I7,p7,I8,p6,N6,F6,F5,l5,O3,O9,J1,N7,N9,N8,x5,A9,B1,B0,l0,O2,S0,R9,N3,I9,V3,N4,p8,F3,F4,x9,F2,l3,u5,l2,u6,l1,L6,P2,P3,z8,A0,G6,G5,E4,d9,i6,j6,b8,d7,tx,elems]
 refine j7 (X:=Nat) (fun i=>⟨l8 [(0,.val (.str (bs t))),(3,.own 6),(4,.val (.int .i64 i))],l9 [(6,.row 5 1 ((Q0 (t.take i)).map rvb))]⟩) (fun i=>i≤t.length) (fun i=>t.length - i) 0 (Le.mk _ _ ?_ ?_) ?_ ?_
 · simp [upd,PV.kill]
 · simp [upd,Q0]
 · simp
 · rintro i hi
   simp [b9,j4,elems]
   refine f6 (fun h1=>?_) (fun h1=>?_)
   · have hnext:∀ st':St,st'.env 0=.val (.str (bs t))→st'.env 3=.own 6→st'.env 4=.val (.int .i64 ((i:Int)+1))→st'.mem 6=.row 5 1 ((Q0 (t.take i)).map rvb++[rvb (b7y (t.getD i 0))]) →
      ∃ x',x'≤t.length∧t.length - x' < t.length - i∧Le st' ⟨l8 [(0,.val (.str (bs t))),(3,.own 6),(4,.val (.int .i64 (x':Int)))],l9 [(6,.row 5 1 ((Q0 (t.take x')).map rvb))]⟩:=fun st' q1 q2 q3 q4=>by
      refine ⟨i+1,by omega,by omega,Le.mk _ _ ?_ ?_⟩
      · simp [q1,q2,q3]
      · simp only [List.mem_singleton,forall_eq,q4]
        rw [b4m t i 0 h1]
        simp [Q0]
     have hlen:(Q0 (t.take i)).length=i:=by simp [Q0];omega
     have e1:((65:Int)≤(t[i].toNat:Int))↔65≤t[i].toNat:=by omega
     have e2:((t[i].toNat:Int)≤90)↔t[i].toNat≤90:=by omega
     by_cases h2:65≤t[i].toNat
     · by_cases h3:t[i].toNat≤90
       · simp [b9,j4,h1,e1,e2,h2,h3,hlen]
         refine ⟨by omega,by omega,hnext _ ?_ ?_ ?_ ?_⟩
         · simp [A8]
         · simp [A8]
         · simp [A8];exact wrap_i64 (by omega) (by omega)
         · rw [a3p _ _ _ h1]
           simp [A8,rvb,b7y,h2,h3]
           rw [c0q h2 h3]
           have:=(t[i]+32).toNat_lt
           rw [b49 (by omega) (by omega)]
           omega
       · simp [b9,j4,h1,e1,e2,h2,h3,hlen]
         refine ⟨by omega,by omega,hnext _ ?_ ?_ ?_ ?_⟩
         · simp [A8]
         · simp [A8]
         · simp [A8];exact wrap_i64 (by omega) (by omega)
         · rw [a3p _ _ _ h1]
           simp [A8,rvb,b7y,h2,h3]
     · simp [b9,j4,h1,e1,e2,h2,hlen]
       refine ⟨by omega,by omega,hnext _ ?_ ?_ ?_ ?_⟩
       · simp [A8]
       · simp [A8]
       · simp [A8];exact wrap_i64 (by omega) (by omega)
       · rw [a3p _ _ _ h1]
         simp [A8,rvb,b7y,h2]
   · have e:i=t.length:=by omega
     subst e
     have e1:(Q0 t).map rvb=(Q0 (t.take t.length)).map rvb:=by simp
     simp [b9]
     exact ⟨fun x _=>rfl,by rw [b9k];rfl⟩
theorem a7d (t wo:Tx) (ht:t.length < 1099511627776) (hw:wo.length < 1099511627776):d8 Tryz.prog 231 [.val (tx t),.val (tx wo)] (.ret (.val (.bool (W1 t wo))) []) []:=by
 refine f5 mixed ok231 rfl (fun _=>rfl) ?_
 unfold ir231
 rw [b7]
 simp only [y5,G3,y7,G1,y8,t6,y6,G2,m8,B2,H6,H7,k6,p9,q7,l4,y9,s8,l6,G0,y4,q9,q8,E1,E3,a04,a05,Option.getD_some,Option.getD_none,C7,u2,o9,D7,o8,o2,D9,o3,D8,D6,D5,I1,w9,o6,D3,w7,o5,D2,C5,D4,w8,D0,o1,w6,D1,I3,I2,C6,C8,o4,C9,x1,o7,B5,n5,C4,C3,C2,H8,v8,n7,C0,v6,n6,B9,B3,C1,v7,B7,n0,u9,B8,I0,H9,B4,u7,n9,B6,w5,n8,K2,J9,L5,K3,K7,K5,K4,L4,K6,K8,K9,L2,L3,z7,z6,z1,M8,M9,A8,G4,u3,E7,x3,L7,t7,R5,N2,M0,O4,O6,O5,R6,R7,J2,J4,J3,J5,J6,O1,x6,O0,E8,E9,F0,x7,a09,F7,y0,R3,R4,I4,N0,N1,Option.map_some,Option.map_none,F1,x8,x2,p5,E5,E6,I6,I5,P1,P0,J8,F8,F9,J7,O7,O8,I7,p7,I8,p6,N6,F6,F5,l5,O3,O9,J1,N7,N9,N8,x5,A9,B1,B0,l0,O2,S0,R9,N3,I9,V3,N4,p8,F3,F4,x9,F2,l3,u5,l2,u6,l1,L6,P2,P3,z8,A0,G6,G5,E4,d9,i6,j6,b8,d7,tx]
 refine j7 (X:=Nat) (fun i=>⟨l8 [(0,.val (.str (bs t))),(1,.val (.str (bs wo))),(5,.val (.int .i64 i))],l9 []⟩) (fun i=>i≤t.length∧W1 (t.take i) wo=true) (fun i=>t.length - i) 0 (Le.mk _ _ ?_ ?_) ?_ ?_
 · simp [upd]
 · simp
 · simp [W1]
 · rintro i ⟨hi,hall⟩
   simp [b9,j4]
   refine f6 (fun h1=>?_) (fun h1=>?_)
   · have hstep:W1 (t.take (i+1)) wo=(decide (33≤t[i].toNat∧t[i].toNat≤126) && !decide (t[i]∈wo)):=by
      unfold W1 at hall ⊢
      rw [Q4 t _ i h1,hall,Bool.true_and]
     have A1:(decide (33≤t[i].toNat∧t[i].toNat≤126) && !decide (t[i]∈wo))=false→W1 t wo=false:=fun hb=>by
      unfold W1
      rw [List.all_eq_false]
      exact ⟨t[i],List.getElem_mem h1,by simpa using hb⟩
     have e1:((t[i].toNat:Int) < 33)↔t[i].toNat < 33:=by omega
     have e2:((126:Int) < (t[i].toNat:Int))↔126 < t[i].toNat:=by omega
     by_cases h2:33≤t[i].toNat
     · have h2':¬ t[i].toNat < 33:=by omega
       by_cases h3:126 < t[i].toNat
       · simp [b9,j4,h1,e1,e2,h2,h2',h3]
         exact A1 (by simp;omega)
       · simp [b9,j4,h1,e1,e2,h2,h2',h3]
         refine b6 rfl rfl (.inl rfl) (a06 wo t[i] hw) ?_
         by_cases h4:t[i]∈wo
         · simp [num,b9,U6,h4]
           exact A1 (by simp [h4])
         · simp [num,b9,U6,h4]
           refine LoopNext.mk (i+1) ⟨by omega,by rw [hstep];simp [h4];omega⟩ (by omega) (Le.mk _ _ ?_ ?_)
           · simp [A8];exact wrap_i64 (by omega) (by omega)
           · simp
     · have h2':t[i].toNat < 33:=by omega
       simp [b9,j4,h1,e1,e2,h2,h2']
       exact A1 (by simp;omega)
   · have e:i=t.length:=by omega
     subst e
     simp [b9]
     simpa using hall.symm
theorem b9d (t:Tx) (ht:t.length < 1099511627776):d8 Tryz.prog 230 [.val (tx t)] (.ret (.val (.bool (U2 t))) []) []:=by
 refine f5 mixed ok230 rfl (fun _=>rfl) ?_
 unfold ir230
 rw [b7]
 simp [d9,i6,j6,b8,d7,tx,b9]
 refine b6 rfl rfl (.inl rfl) (S6 .i64 t.length 1 12) ?_
 by_cases hlen:1≤t.length∧t.length≤12
 rotate_left
 · rw [show decide ((1:Int)≤t.length∧(t.length:Int)≤12)=false from decide_eq_false (by omega)]
   simp
   simp [U2,hlen]
 rw [show decide ((1:Int)≤t.length∧(t.length:Int)≤12)=true from decide_eq_true (by omega)]
 simp
 refine j7 (X:=Nat) (fun i=>⟨l8 [(0,.val (.str (bs t))),(3,.val (.int .i64 i))],l9 []⟩) (fun i=>i≤t.length∧a3e (t.take i)=true) (fun i=>t.length - i) 0 (Le.mk _ _ ?_ ?_) ?_ ?_
 · simp [upd]
 · simp
 · simp [a3e]
 · rintro i ⟨hi,hall⟩
   simp [b9,j4]
   refine f6 (fun h1=>?_) (fun h1=>?_)
   · have hstep:=b0n t i h1
     rw [hall,Bool.true_and] at hstep
     have A1:=a8v t i h1
     have hls:U2 t=a3e t:=by simp [U2,hlen]
     have e1:((97:Int)≤(t[i].toNat:Int))↔97≤t[i].toNat:=by omega
     have e2:((t[i].toNat:Int)≤122)↔t[i].toNat≤122:=by omega
     have hgood:(if i=0 then M7 t[i] else U8 t[i])=true→∀ st':St,st'.env 0=.val (.str (bs t))→st'.env 3=.val (.int .i64 (IntKind.i64.wrap ((i:Int)+1))) →
      ∃ x',(x'≤t.length∧a3e (t.take x')=true)∧t.length - x' < t.length - i∧Le st' ⟨l8 [(0,.val (.str (bs t))),(3,.val (.int .i64 (x':Int)))],l9 []⟩:=fun hg st' q1 q2=>by
      refine ⟨i+1,⟨by omega,by rw [hstep,hg]⟩,by omega,Le.mk _ _ ?_ ?_⟩
      · simp [q1,q2];exact wrap_i64 (by omega) (by omega)
      · simp
     by_cases hs:97≤t[i].toNat∧t[i].toNat≤122
     · simp [b9,j4,h1,e1,e2,hs.1,hs.2]
       refine hgood ?_ _ ?_ ?_
       · simp [M7,U8,hs]
       · simp
       · simp
     · by_cases h2:97≤t[i].toNat
       · have h3:¬ t[i].toNat≤122:=fun h=>hs ⟨h2,h⟩
         have hlow:M7 t[i]=false:=by simp [M7];omega
         by_cases h0:i=0
         · simp [b9,j4,h1,e1,e2,h2,h3,(eq_true h0:(i=0)=True)]
           exact hls.trans (A1 (by rw [if_pos h0];exact hlow))
         · simp [b9,j4,h1,e1,e2,h2,h3,h0]
           refine b6 rfl rfl (.inl rfl) (a32 t[i]) ?_
           cases hd:M3 t[i] with
           | true=>
            simp [h0]
            refine hgood ?_ _ ?_ ?_
            · simp [h0,U8,hd]
            · simp
            · simp
           | false=>
            have e3:((t[i].toNat:Int)=45)↔t[i].toNat=45:=by omega
            have e4:((t[i].toNat:Int)=43)↔t[i].toNat=43:=by omega
            have e5:((t[i].toNat:Int)=46)↔t[i].toNat=46:=by omega
            by_cases h4:t[i].toNat=45
            · simp [b9,j4,h1,h0,e3,e4,e5,h4]
              refine hgood ?_ _ ?_ ?_
              · simp [h0,U8,h4]
              · simp
              · simp
            · by_cases h5:t[i].toNat=43
              · simp [b9,j4,h1,h0,e3,e4,e5,h4,h5]
                refine hgood ?_ _ ?_ ?_
                · simp [h0,U8,h5]
                · simp
                · simp
              · by_cases h6:t[i].toNat=46
                · simp [b9,j4,h1,h0,e3,e4,e5,h4,h5,h6]
                  refine hgood ?_ _ ?_ ?_
                  · simp [h0,U8,h6]
                  · simp
                  · simp
                · simp [b9,j4,h1,h0,e3,e4,e5,h4,h5,h6]
                  exact hls.trans (A1 (by rw [if_neg h0];simp [U8,hlow,hd,h4,h5,h6]))
       · skip
         have hlow:M7 t[i]=false:=by simp [M7];omega
         by_cases h0:i=0
         · simp [b9,j4,h1,e1,e2,h2,(eq_true h0:(i=0)=True)]
           exact hls.trans (A1 (by rw [if_pos h0];exact hlow))
         · simp [b9,j4,h1,e1,e2,h2,h0]
           refine b6 rfl rfl (.inl rfl) (a32 t[i]) ?_
           cases hd:M3 t[i] with
           | true=>
            simp [h0]
            refine hgood ?_ _ ?_ ?_
            · simp [h0,U8,hd]
            · simp
            · simp
           | false=>
            have e3:((t[i].toNat:Int)=45)↔t[i].toNat=45:=by omega
            have e4:((t[i].toNat:Int)=43)↔t[i].toNat=43:=by omega
            have e5:((t[i].toNat:Int)=46)↔t[i].toNat=46:=by omega
            by_cases h4:t[i].toNat=45
            · simp [b9,j4,h1,h0,e3,e4,e5,h4]
              refine hgood ?_ _ ?_ ?_
              · simp [h0,U8,h4]
              · simp
              · simp
            · by_cases h5:t[i].toNat=43
              · simp [b9,j4,h1,h0,e3,e4,e5,h4,h5]
                refine hgood ?_ _ ?_ ?_
                · simp [h0,U8,h5]
                · simp
                · simp
              · by_cases h6:t[i].toNat=46
                · simp [b9,j4,h1,h0,e3,e4,e5,h4,h5,h6]
                  refine hgood ?_ _ ?_ ?_
                  · simp [h0,U8,h6]
                  · simp
                  · simp
                · simp [b9,j4,h1,h0,e3,e4,e5,h4,h5,h6]
                  exact hls.trans (A1 (by rw [if_neg h0];simp [U8,hlow,hd,h4,h5,h6]))
   · have e:i=t.length:=by omega
     subst e
     simp [b9]
     simp [U2,hlen]
     simpa using hall.symm
theorem b2s (last:Bool) (t:Tx) (i:Nat) (h:i < t.length):S9 last (t.drop i)=if !(M7 t[i] || M3 t[i]) && (last || !decide (t[i].toNat=45∨t[i].toNat=46)) then false else S9 (!(M7 t[i] || M3 t[i])) (t.drop (i+1)):=by
 rw [List.drop_eq_getElem_cons h];rfl
theorem c5t (t:Tx) (ht:t.length < 1099511627776):d8 Tryz.prog 232 [.val (tx t)] (.ret (.val (.bool (a1d t))) []) []:=by
 refine f5 mixed ok232 rfl (fun _=>rfl) ?_
 unfold ir232
 rw [b7]
 simp [d9,i6,j6,b8,d7,tx]
 refine j7 (X:=Nat×Bool) (fun x=>⟨l8 [(0,.val (.str (bs t))),(3,.val (.bool x.2)),(4,.val (.int .i64 x.1))],l9 []⟩) (fun x=>x.1≤t.length∧a1d t=S9 x.2 (t.drop x.1)) (fun x=>t.length - x.1) (0,true) (Le.mk _ _ ?_ ?_) ?_ ?_
 · simp [upd]
 · simp
 · simp [a1d]
 · rintro ⟨i,last⟩ ⟨hi,hinv⟩
   simp only at hi hinv
   simp [b9,j4]
   refine f6 (fun h1=>?_) (fun h1=>?_)
   · rw [b2s last t i h1] at hinv
     have e1:((97:Int)≤(t[i].toNat:Int))↔97≤t[i].toNat:=by omega
     have e2:((t[i].toNat:Int)≤122)↔t[i].toNat≤122:=by omega
     have e3:((t[i].toNat:Int)=45)↔t[i].toNat=45:=by omega
     have e5:((t[i].toNat:Int)=46)↔t[i].toNat=46:=by omega
     have hgood:∀ (l:Bool),a1d t=S9 l (t.drop (i+1))→∀ st':St,st'.env 0=.val (.str (bs t))→st'.env 3=.val (.bool l)→st'.env 4=.val (.int .i64 (IntKind.i64.wrap ((i:Int)+1))) →
      ∃ x':Nat×Bool,(x'.1≤t.length∧a1d t=S9 x'.2 (t.drop x'.1))∧t.length - x'.1 < t.length - i∧Le st' ⟨l8 [(0,.val (.str (bs t))),(3,.val (.bool x'.2)),(4,.val (.int .i64 (x'.1:Int)))],l9 []⟩:=fun l hl st' q1 q2 q3=>by
      refine ⟨(i+1,l),⟨by simp only;omega,hl⟩,by simp only;omega,Le.mk _ _ ?_ ?_⟩
      · simp [q1,q2,q3];exact wrap_i64 (by omega) (by omega)
      · simp
     by_cases hs:97≤t[i].toNat∧t[i].toNat≤122
     · have hlow:M7 t[i]=true:=by simp [M7,hs]
       simp [b9,j4,h1,e1,e2,hs.1,hs.2]
       refine hgood false (by rw [hinv];simp [hlow]) _ ?_ ?_ ?_<;>simp
     · have hlow:M7 t[i]=false:=by simp [M7];omega
       by_cases h2:97≤t[i].toNat
       · have h3:¬ t[i].toNat≤122:=fun h=>hs ⟨h2,h⟩
         simp [b9,j4,h1,e1,e2,h2,h3]
         refine b6 rfl rfl (.inl rfl) (a32 t[i]) ?_
         cases hd:M3 t[i] with
         | true=>
          simp
          refine hgood false (by rw [hinv];simp [hlow,hd]) _ ?_ ?_ ?_<;>simp
         | false=>
          cases last with
          | true=>
           simp
           rw [hinv];simp [hlow,hd]
          | false=>
           by_cases h4:t[i].toNat=45
           · simp [b9,j4,h1,e3,e5,h4]
             refine hgood true (by rw [hinv];simp [hlow,hd,h4]) _ ?_ ?_ ?_<;>simp
           · by_cases h6:t[i].toNat=46
             · simp [b9,j4,h1,e3,e5,h4,h6]
               refine hgood true (by rw [hinv];simp [hlow,hd,h6]) _ ?_ ?_ ?_<;>simp
             · simp [b9,j4,h1,e3,e5,h4,h6]
               rw [hinv];simp [hlow,hd,h4,h6]
       · skip
         simp [b9,j4,h1,e1,e2,h2]
         refine b6 rfl rfl (.inl rfl) (a32 t[i]) ?_
         cases hd:M3 t[i] with
         | true=>
          simp
          refine hgood false (by rw [hinv];simp [hlow,hd]) _ ?_ ?_ ?_<;>simp
         | false=>
          cases last with
          | true=>
           simp
           rw [hinv];simp [hlow,hd]
          | false=>
           by_cases h4:t[i].toNat=45
           · simp [b9,j4,h1,e3,e5,h4]
             refine hgood true (by rw [hinv];simp [hlow,hd,h4]) _ ?_ ?_ ?_<;>simp
           · by_cases h6:t[i].toNat=46
             · simp [b9,j4,h1,e3,e5,h4,h6]
               refine hgood true (by rw [hinv];simp [hlow,hd,h6]) _ ?_ ?_ ?_<;>simp
             · simp [b9,j4,h1,e3,e5,h4,h6]
               rw [hinv];simp [hlow,hd,h4,h6]
   · have e:i=t.length:=by omega
     subst e
     simp [b9]
     rw [hinv];simp [S9]
end Go.Proofs
end
section
namespace Go.Proofs
open Go.PW Go.KP
attribute [local simp] RV.cells RV.one PV.cells PV.solid PV.one t8 f9 H0 A5 RV.ofCells elems PV.killL
variable [GF]
theorem byte1 (m:Nat):W8 [RV.int .u8 (48+(m:Int))]=bs [UInt8.ofNat (48+m)]:=by
 have:(48+(m:Int)).toNat=48+m:=by omega
 simp only [W8,bs,List.map,RV.byte,this]
theorem b1i (n:Nat):n≤9223372036854775807→d8 Tryz.prog 233 [.val (num n)] (.ret (.val (tx (a12 n))) []) []:=by
 induction n using Nat.strongRecOn with
 | ind n ih=>
  intro hn
  refine f5 mixed ok233 rfl (fun _=>rfl) ?_
  unfold ir233
  rw [b7]
  have g1:¬ ((n:Int)=-9223372036854775808):=by omega
  have g2:¬ ((n:Int) < 0):=by omega
  by_cases h:n < 10
  · have g3:(n:Int) < 10:=by omega
    have g4:IntKind.i64.wrap (48+(n:Int))=48+(n:Int):=wrap_i64 (by omega) (by omega)
    have g5:IntKind.u8.wrap (48+(n:Int))=48+(n:Int):=b49 (by omega) (by omega)
    simp [d9,i6,j6,b8,d7,num,g1,g2,g3,g4,g5,RV.isU8]
    rw [a03 h]
    rw [byte1];rfl
  · have g3:¬ ((n:Int) < 10):=by omega
    have g6:(n:Int).tdiv 10=((n / 10:Nat):Int):=by rw [Int.tdiv_eq_ediv_of_nonneg (by omega)];omega
    have g7:(n:Int).tmod 10=((n % 10:Nat):Int):=by rw [Int.tmod_eq_emod_of_nonneg (by omega)];omega
    have hih:=ih (n / 10) (by omega) (by omega)
    rw [a3n h]
    have hl:=c63 (n / 10)
    have ha:n / 10≤922337203685477580:=by omega
    generalize n / 10=a at *
    have hb:n % 10 < 10:=Nat.mod_lt _ (by omega)
    generalize n % 10=b at *
    have g8:IntKind.i64.wrap (a:Int)=(a:Int):=wrap_i64 (by omega) (by omega)
    have g4:IntKind.i64.wrap (48+(b:Int))=48+(b:Int):=wrap_i64 (by omega) (by omega)
    have g5:IntKind.u8.wrap (48+(b:Int))=48+(b:Int):=b49 (by omega) (by omega)
    simp [d9,i6,j6,b8,d7,num,g1,g2,g3,g6,g7,g8,g4,g5,RV.isU8]
    refine m0 rfl rfl (.inl rfl) hih ?_
    simp [d9,i6,j6,b8,d7,num,g1,g2,g3,g6,g7,g8,g4,g5,RV.isU8,tx]
    rw [byte1]
    simp [b9,H3]
    omega
def a9x:Option Int→PV
 | some n=>.tup [.val (num n),.val (.bool true)]
 | none=>.tup [.val (num 0),.val (.bool false)]
theorem b5p (u:Tx) (neg:Bool) (st:St) (h0:st.env 0=.val (tx u)) (h4:st.env 4=.val (num (if neg then -1 else 1))) (h5:st.env 5=.val (num 0)) (hu:u.length≤18) :
 EC Tryz.prog ir218_from5 st (K:=⟨a1i [.t 2,.t 3] (a9x (if u.all M3 then some (if neg then - (T8 u:Int) else (T8 u:Int)) else none))⟩):=by
 unfold ir218_from5
 simp only [y5,G3,y7,G1,y8,t6,y6,G2,m8,B2,H6,H7,k6,p9,q7,l4,y9,s8,l6,G0,y4,q9,q8,E1,E3,a04,a05,Option.getD_some,Option.getD_none,C7,u2,o9,D7,o8,o2,D9,o3,D8,D6,D5,I1,w9,o6,D3,w7,o5,D2,C5,D4,w8,D0,o1,w6,D1,I3,I2,C6,C8,o4,C9,x1,o7,B5,n5,C4,C3,C2,H8,v8,n7,C0,v6,n6,B9,B3,C1,v7,B7,n0,u9,B8,I0,H9,B4,u7,n9,B6,w5,n8,K2,J9,L5,K3,K7,K5,K4,L4,K6,K8,K9,L2,L3,z7,z6,z1,M8,M9,A8,G4,u3,E7,x3,L7,t7,R5,N2,M0,O4,O6,O5,R6,R7,J2,J4,J3,J5,J6,O1,x6,O0,E8,E9,F0,x7,a09,F7,y0,R3,R4,I4,N0,N1,Option.map_some,Option.map_none,F1,x8,x2,p5,E5,E6,I6,I5,P1,P0,J8,F8,F9,J7,O7,O8,I7,p7,I8,p6,N6,F6,F5,l5,O3,O9,J1,N7,N9,N8,x5,A9,B1,B0,l0,O2,S0,R9,N3,I9,V3,N4,p8,F3,F4,x9,F2,l3,u5,l2,u6,l1,L6,P2,P3,z8,A0,G6,G5,E4]
 refine j7 (X:=Nat) (fun i=>⟨l8 [(0,.val (tx u)),(4,.val (num (if neg then -1 else 1))),(5,.val (num (T8 (u.take i)))),(6,.val (num i))],l9 []⟩) (fun i=>i≤u.length∧(u.take i).all M3=true) (fun i=>u.length - i) 0 (Le.mk _ _ ?_ ?_) ?_ ?_
 · simp [upd,h0,h4,h5,num,T8]
 · simp
 · simp
 · rintro i ⟨hi,hall⟩
   have hlv:T8 (u.take i) < 1000000000000000000:=by
    have h1:=b1o _ hall
    have h2:(u.take i).length≤18:=by simp;omega
    exact Nat.lt_of_lt_of_le h1 (Nat.le_trans (Nat.pow_le_pow_right (by omega) h2) (by decide))
   simp [tx,num,b9,j4]
   refine f6 (fun h1=>?_) (fun h1=>?_)
   · have e1:((u[i].toNat:Int) < 48)↔u[i].toNat < 48:=by omega
     have e1':((48:Int)≤(u[i].toNat:Int))↔48≤u[i].toNat:=by omega
     have e2:((57:Int) < (u[i].toNat:Int))↔57 < u[i].toNat:=by omega
     by_cases h2:u[i].toNat < 48
     · have h2':¬ 48≤u[i].toNat:=by omega
       simp [tx,num,b9,j4,h1,e1,e1',e2,h2,h2']
       rw [if_neg (fun hA=>by have:=hA u[i] (List.getElem_mem h1);simp [M3] at this;omega)];rfl
     · have h2':48≤u[i].toNat:=by omega
       by_cases h3:57 < u[i].toNat
       · simp [tx,num,b9,j4,h1,e1,e1',e2,h2,h2',h3]
         rw [if_neg (fun hA=>by have:=hA u[i] (List.getElem_mem h1);simp [M3] at this;omega)];rfl
       · simp [tx,num,b9,j4,h1,e1,e1',e2,h2,h2',h3]
         have hlv2:T8 (u.take i) < 100000000000000000:=by
          have h1':=b1o _ hall
          have h2':(u.take i).length≤17:=by simp;omega
          exact Nat.lt_of_lt_of_le h1' (Nat.le_trans (Nat.pow_le_pow_right (by omega) h2') (by decide))
         have hw:IntKind.i64.wrap (IntKind.i64.wrap (IntKind.i64.wrap ((T8 (u.take i):Int)*10)+IntKind.i64.wrap (u[i].toNat:Int)) - 48)=((T8 (u.take (i+1)):Nat):Int):=by
          rw [b4m u i 0 h1,a67,a3p _ _ _ h1]
          rw [wrap_i64 (x:=(T8 (u.take i):Int)*10) (by omega) (by omega),wrap_i64 (x:=(u[i].toNat:Int)) (by omega) (by omega),wrap_i64 (x:=(T8 (u.take i):Int)*10+(u[i].toNat:Int)) (by omega) (by omega),wrap_i64 (by omega) (by omega)]
          omega
         refine LoopNext.mk (i+1) ⟨by omega,?_⟩ (by omega) (Le.mk _ _ ?_ ?_)
         · rw [Q4 _ _ _ h1,hall];simp [M3];omega
         · simp [hw,tx,num];exact wrap_i64 (by omega) (by omega)
         · simp
   · have e:i=u.length:=by omega
     subst e
     rw [List.take_length] at hall hlv
     simp [tx,num,b9]
     have hA:∀ x,x∈u→M3 x=true:=by simpa using hall
     have w1:IntKind.i64.wrap (-(T8 u:Int))=-(T8 u:Int):=wrap_i64 (by omega) (by omega)
     have w2:IntKind.i64.wrap (T8 u:Int)=(T8 u:Int):=wrap_i64 (by omega) (by omega)
     cases neg with
     | true=>simp [a9x,num,eq_true hA,w1]
     | false=>simp [a9x,num,eq_true hA,w2]
theorem a49 (u:Tx) (neg:Bool) (st:St) (h0:st.env 0=.val (tx u)) (h4:st.env 4=.val (num (if neg then -1 else 1))) (hu:u.length < 1099511627776) :
 EC Tryz.prog ir218_from3 st (K:=⟨a1i [.t 2,.t 3] (a9x (a1c neg u))⟩):=by
 unfold ir218_from3
 by_cases a1:u.length=0
 · have:u=[]:=List.eq_nil_of_length_eq_zero a1
   subst this
   simp [h0,tx,b9]
   rw [show a1c neg []=none by simp [a1c,a2m]];rfl
 · have a1':¬ ((u.length:Int)=0):=by omega
   by_cases a2:18 < u.length
   · have a2':(18:Int) < u.length:=by omega
     have a2'':¬ (u.length:Int)≤18:=by omega
     simp [h0,tx,b9,a1,a1',a2',a2'']
     rw [show a1c neg u=none by simp [a1c,a2m,a2]];rfl
   · have hpos:0 < u.length:=by omega
     have a2':¬ (18:Int) < u.length:=by omega
     have a2'':(u.length:Int)≤18:=by omega
     have e0:u[0]?.getD 0=u.getD 0 0:=by simp
     have e1:((u[0].toNat:Int)=48)↔u[0].toNat=48:=by omega
     have e2:((1:Int) < (u.length:Int))↔1 < u.length:=by omega
     have hg:u[0]?.getD 0=u[0]:=by simp [List.getElem?_eq_getElem hpos]
     have hgo:a2m neg u=false→∀ st':St,st'.env 0=.val (tx u)→st'.env 4=.val (num (if neg then -1 else 1))→st'.env 5=.val (num 0)→EC Tryz.prog ir218_from5 st' (K:=⟨a1i [.t 2,.t 3] (a9x (a1c neg u))⟩):=fun hb st' q1 q2 q3=>by
      rw [show a1c neg u=(if u.all M3 then some (if neg then - (T8 u:Int) else (T8 u:Int)) else none) by unfold a1c;rw [hb];rfl]
      exact b5p u neg st' q1 q2 q3 (by omega)
     by_cases a3:u[0].toNat=48
     · by_cases a4:1 < u.length
       · simp [h0,tx,b9,a1,a1',a2',a2'',j4,hpos,e1,e2,a3,a4]
         rw [show a1c neg u=none by simp [a1c,a2m,hg,a3,a4]];rfl
       · cases neg with
         | true=>
          simp [h0,h4,num,tx,b9,a1,a1',a2',a2'',j4,hpos,e1,e2,a3,a4]
          rw [show a1c true u=none by simp [a1c,a2m,hg,a3]];rfl
         | false=>
          simp [h0,h4,num,tx,b9,a1,a1',a2',a2'',j4,hpos,e1,e2,a3,a4]
          refine hgo ?_ _ ?_ ?_ ?_
          · simp [a2m,hg,a3,a4,a1,a2]
          · simp [h0,tx]
          · simp [h4,num]
          · simp [num]
     · simp [h0,tx,b9,a1,a1',a2',a2'',j4,hpos,e1,e2,a3]
       refine hgo ?_ _ ?_ ?_ ?_
       · simp [a2m,hg,a3,a1,a2]
       · simp [h0,tx]
       · simp [h4,num]
       · simp [num]
theorem b9f (t:Tx) (ht:t.length < 1099511627776):d8 Tryz.prog 218 [.val (tx t)] (.ret (a9x (V1 t)) []) []:=by
 refine f5 mixed ok218 rfl (fun ι=>by cases V1 t<;>rfl) ?_
 unfold ir218
 rw [b7]
 cases t with
 | nil=>
  simp [d9,i6,j6,b8,d7,tx,b9]
  rw [show V1 []=a1c false [] by simp [V1,a1c,a2m]]
  refine a49 [] false _ ?_ ?_ (by simp)<;>simp [tx,num]
 | cons c r=>
  have hr:r.length < 1099511627776:=by simp at ht;omega
  have e0:(0:Int) < ((r.length:Int)+1):=by omega
  by_cases hc:c=45
  · have e1:((c.toNat:Int)=45):=by rw [hc];rfl
    simp [d9,i6,j6,b8,d7,tx,b9,j4,e0,e1,Q6]
    rw [show V1 (c :: r)=a1c true r by simp [V1,hc]]
    refine a49 r true _ ?_ ?_ hr<;>simp [tx,num]
  · have e1:¬ ((c.toNat:Int)=45):=fun h=>hc (UInt8.toNat_inj.1 (by simp;omega))
    simp [d9,i6,j6,b8,d7,tx,b9,j4,e0,e1]
    rw [show V1 (c :: r)=a1c false (c :: r) by simp [V1,hc]]
    refine a49 (c :: r) false _ ?_ ?_ ht<;>simp [tx,num]
theorem c5s (u:LUrl) (hs:u.Small):d8 Tryz.prog 220 [.val (V7 u)] (.ret (.val (tx (c2m u))) []) []:=by
 refine f5 mixed ok220 rfl (fun _=>rfl) ?_
 unfold ir220
 rw [b7]
 obtain ⟨s1,s2,s3,s4,s5,s6,s7⟩:=hs
 have e1:(⟨#[58,47,47]⟩:ByteArray)=bs [58,47,47]:=rfl
 have e2:(⟨#[58]⟩:ByteArray)=bs [58]:=rfl
 simp [d9,i6,j6,b8,d7,V7,tx,num,b9,e1,e2,H3]
 refine ⟨by omega,by omega,f6 (fun h=>?_) (fun h=>?_)⟩
 · obtain ⟨p,hp⟩:=Int.eq_ofNat_of_zero_le (show 0≤u.port by omega)
   simp [V7,tx,num,b9,e1,e2,H3]
   refine b6 rfl rfl (.inl rfl) (by rw [hp];exact b1i p (by omega)) ?_
   have hl:=a3w 18 p (by omega)
   simp [V7,tx,num,b9,e1,e2,H3]
   refine ⟨by omega,by omega,?_⟩
   simp [c2m,a1f,hp,show 0 < p by omega]
 · simp [V7,tx,num,b9,e1,e2,H3]
   simp [c2m,a1f,h]
theorem b1w (u:LUrl) (hs:u.Small) (pre:Tx) (hp:pre.length < 4398046511104) (st:St) (h1:st.env 1=.ptr 1 0) (h3:st.env 3=.val (tx pre)) (hm:st.mem 1=.box [.val (tx u.scheme),.val (tx u.user),.val (tx u.host),.val (num u.port),.val (tx u.path),.val (tx u.query),.val (tx u.frag),.val (.bool u.hasQ),.val (.bool u.hasF)]) :
 EC Tryz.prog ir193_from4 st (K:=⟨a1i [.t 2] (.val (tx (pre++(u.host++a1f u.port++u.path)++(if u.hasQ then 63 :: u.query else [])++(if u.hasF then 35 :: u.frag else []))))⟩):=by
 unfold ir193_from4
 obtain ⟨s1,s2,s3,s4,s5,s6,s7⟩:=hs
 have e3:(⟨#[]⟩:ByteArray)=bs []:=rfl
 have e5:(⟨#[63]⟩:ByteArray)=bs [63]:=rfl
 have e6:(⟨#[35]⟩:ByteArray)=bs [35]:=rfl
 simp [h1,h3,hm,tx,num,b9,e3,e5,e6,H3]
 refine m0 rfl rfl (.inl rfl) (c5s ⟨[],[],u.host,u.port,[],[],[],false,false⟩ ⟨by simp,by simp,s3,by simp,by simp,by simp,s7⟩) ?_
 simp [h1,h3,hm,tx,num,b9,e3,e5,e6,H3,Q6,c2m]
 have hpl:=b96 u.port s7
 have htk:List.take (u.host.length+(a1f u.port).length) (u.host++a1f u.port)=u.host++a1f u.port:=List.take_of_length_le (by simp)
 refine ⟨by omega,by omega,?_⟩
 cases hq:u.hasQ with
 | true=>
  refine f6 (fun _=>?_) (fun h=>(h (by simp)).elim)
  simp [h1,h3,hm,tx,num,b9,e3,e5,e6,H3,htk]
  refine ⟨by omega,by omega,?_⟩
  cases hf:u.hasF with
  | true=>
   refine f6 (fun _=>?_) (fun h=>(h (by simp)).elim)
   simp [h1,h3,hm,tx,num,b9,e3,e5,e6,H3,htk]
   omega
  | false=>
   refine f6 (fun h=>by simp at h) (fun _=>?_)
   simp [h1,h3,hm,tx,num,b9,e3,e5,e6,H3,htk]
 | false=>
  refine f6 (fun h=>by simp at h) (fun _=>?_)
  simp [h1,h3,hm,tx,num,b9,e3,e5,e6,H3,htk]
  cases hf:u.hasF with
  | true=>
   refine f6 (fun _=>?_) (fun h=>(h (by simp)).elim)
   simp [h1,h3,hm,tx,num,b9,e3,e5,e6,H3,htk]
   omega
  | false=>
   refine f6 (fun h=>by simp at h) (fun _=>?_)
   simp [h1,h3,hm,tx,num,b9,e3,e5,e6,H3,htk]
theorem b0a (u:LUrl) (hs:u.Small):d8 Tryz.prog 193 [.val (V7 u)] (.ret (.val (tx (W0 u))) []) []:=by
 refine f5 mixed ok193 rfl (fun _=>rfl) ?_
 unfold ir193
 rw [b7]
 have hs':=hs
 obtain ⟨s1,s2,s3,s4,s5,s6,s7⟩:=hs
 have e1:(⟨#[58,47,47]⟩:ByteArray)=bs [58,47,47]:=rfl
 have e2:(⟨#[58]⟩:ByteArray)=bs [58]:=rfl
 have e3:(⟨#[]⟩:ByteArray)=bs []:=rfl
 have e4:(⟨#[64]⟩:ByteArray)=bs [64]:=rfl
 have e5:(⟨#[63]⟩:ByteArray)=bs [63]:=rfl
 have e6:(⟨#[35]⟩:ByteArray)=bs [35]:=rfl
 simp [d9,i6,j6,b8,d7,V7,tx,num,b9,e1,e2,H3]
 refine b6 rfl rfl (.inl rfl) (a6x u.scheme) ?_
 by_cases hw:Z1 u.scheme=true
 · simp [V7,tx,num,b9,e1,e2,e3,e4,H3,G9,hw]
   refine ⟨by omega,f6 (fun hu=>?_) (fun hu=>?_)⟩
   · simp [V7,tx,num,b9,e1,e2,e3,e4,H3,G9]
     refine ⟨by omega,by omega,?_⟩
     have e:W0 u=(u.scheme++[58,47,47]++(u.user++[64]))++(u.host++a1f u.port++u.path)++(if u.hasQ then 63 :: u.query else [])++(if u.hasF then 35 :: u.frag else []):=by simp [W0,hw,hu]
     have:=b1w u hs' (u.scheme++[58,47,47]++(u.user++[64])) (by simp;omega)
     rw [← e] at this
     refine this _ ?_ ?_ ?_<;>simp [tx,num]
   · have hu:u.user=[]:=Classical.byContradiction hu
     have e:W0 u=(u.scheme++[58,47,47])++(u.host++a1f u.port++u.path)++(if u.hasQ then 63 :: u.query else [])++(if u.hasF then 35 :: u.frag else []):=by simp [W0,hw,hu]
     have:=b1w u hs' (u.scheme++[58,47,47]) (by simp;omega)
     rw [← e] at this
     simp [V7,tx,num,b9,e1,e2,e3,e4,H3,G9]
     refine this _ ?_ ?_ ?_<;>simp [tx,num]
 · simp [V7,tx,num,b9,e1,e2,H3,hw]
   refine ⟨by omega,by omega,?_⟩
   simp [W0,hw]
end Go.Proofs
end
section
namespace Go.Proofs
open Go.PW Go.KP
attribute [local simp] RV.cells RV.one PV.cells PV.solid PV.one t8 f9 H0 A5 RV.ofCells elems PV.killL
variable [GF]
theorem b6v (u:LUrl) (hs:u.Small) (hw:Z1 u.scheme=true) (st:St) (h1:st.env 1=.ptr 1 0) (hm:st.mem 1=.box [.val (tx u.scheme),.val (tx u.user),.val (tx u.host),.val (num u.port),.val (tx u.path),.val (tx u.query),.val (tx u.frag),.val (.bool u.hasQ),.val (.bool u.hasF)]) :
 EC Tryz.prog ir217_from3 st (K:=⟨a1i [.t 2] (.val (.bool (W1 u.user [47,63,35,64] && a1d u.host && decide (0≤u.port∧u.port≤65535) && decide (u.port≠Z3 u.scheme) && decide (0 < u.path.length) && decide ((u.path.getD 0 0).toNat=47))))⟩):=by
 unfold ir217_from3
 obtain ⟨s1,s2,s3,s4,s5,s6,s7⟩:=hs
 have e3:(⟨#[47,63,35,64]⟩:ByteArray)=bs [47,63,35,64]:=rfl
 simp [h1,hm,tx,num,b9,e3]
 refine m0 rfl rfl (.inl rfl) (a7d u.user [47,63,35,64] s2 (by simp)) ?_
 cases a1:W1 u.user [47,63,35,64] with
 | false=>simp [h1,hm,tx,num,b9]
 | true=>
  simp [h1,hm,tx,num,b9]
  refine m0 rfl rfl (.inl rfl) (c5t u.host s3) ?_
  cases a2:a1d u.host with
  | false=>simp [h1,hm,tx,num,b9]
  | true=>
   simp [h1,hm,tx,num,b9]
   refine m0 rfl rfl (.inl rfl) (S6 .i64 u.port 0 65535) ?_
   cases a3:decide (0≤u.port∧u.port≤65535) with
   | false=>simp [h1,hm,tx,num,b9]
   | true=>
    simp [h1,hm,tx,num,b9]
    refine m0 rfl rfl (.inl rfl) (b3k u.scheme) ?_
    by_cases a4:u.port=Z3 u.scheme
    · simp [h1,hm,tx,num,b9,a4]
    · simp [h1,hm,tx,num,b9,a4]
      by_cases a5:0 < u.path.length
      · have a5':u.path≠[]:=fun e=>by simp [e] at a5
        have e7:((u.path[0].toNat:Int)=47)↔u.path[0].toNat=47:=by omega
        simp [h1,hm,tx,num,b9,j4,a4,a5,a5',e7,List.getElem?_eq_getElem a5]
        by_cases h47:u.path[0].toNat=47
        · simp [h47]
        · have h47':((u.path[0].toNat:Int) == 47)=false:=by simp;omega
          rw [h47'];simp [h47]
      · simp [h1,hm,tx,num,b9,a4,a5]
def a43 (u:LUrl):Bool:=
 if Z1 u.scheme then W1 u.user [47,63,35,64] && a1d u.host && decide (0≤u.port∧u.port≤65535) && decide (u.port≠Z3 u.scheme) && decide (0 < u.path.length) && decide ((u.path.getD 0 0).toNat=47)
 else decide (u.user=[]) && decide (u.host=[]) && decide (u.port=0) && !u.hasQ && !u.hasF
theorem b6w (u:LUrl) (hs:u.Small) (st:St) (h1:st.env 1=.ptr 1 0) (hm:st.mem 1=.box [.val (tx u.scheme),.val (tx u.user),.val (tx u.host),.val (num u.port),.val (tx u.path),.val (tx u.query),.val (tx u.frag),.val (.bool u.hasQ),.val (.bool u.hasF)]) :
 EC Tryz.prog ir217_from2 st (K:=⟨a1i [.t 2] (.val (.bool (a43 u)))⟩):=by
 unfold ir217_from2
 have e3:(⟨#[]⟩:ByteArray)=bs []:=rfl
 simp [h1,hm,tx,num,b9]
 refine b6 rfl rfl (.inl rfl) (a6x u.scheme) ?_
 cases hw:Z1 u.scheme with
 | true=>
  simp [h1,hm,tx,num,b9]
  rw [show a43 u=_ by unfold a43;rw [hw,if_pos rfl]]
  refine b6v u hs hw _ ?_ ?_<;>simp [h1,hm,tx,num]
 | false=>
  rw [show a43 u=_ by unfold a43;rw [hw,if_neg (by simp)]]
  by_cases a1:u.user=[]
  · by_cases a2:u.host=[]
    · by_cases a3:u.port=0
      · cases a4:u.hasQ with
        | true=>simp [h1,hm,tx,num,b9,e3,G9,a1,a2,a3,a4]
        | false=>simp [h1,hm,tx,num,b9,e3,G9,a1,a2,a3,a4]
      · simp [h1,hm,tx,num,b9,e3,G9,a1,a2,a3]
    · simp [h1,hm,tx,num,b9,e3,G9,a1,a2]
  · simp [h1,hm,tx,num,b9,e3,G9,a1]
structure UO (st:St) (u:LUrl):Prop where
 e1:st.env 1=.ptr 1 0
 m1:st.mem 1=.box [.val (tx u.scheme),.val (tx u.user),.val (tx u.host),.val (num u.port),.val (tx u.path),.val (tx u.query),.val (tx u.frag),.val (.bool u.hasQ),.val (.bool u.hasF)]
section
variable {Ks:Kx (St→Prop)} {kx:Kx (RV→St→Prop)} {st:St} {u:LUrl} {b:Bool}
def c28 (u:LUrl):Bool:=decide (100 < (W0 u).length)
theorem okops43 (hs:u.Small) (h:UO st u) (hb:st.env 45=.val (.bool b)) (hK:∀ st',UO st' u→st'.env 50=.val (.bool (b || c28 u))→Ks.k st'):EO Tryz.prog ir217_ops1_43 st (Ks:=Ks) (kx:=kx):=by
 unfold ir217_ops1_43
 obtain ⟨e1,m1⟩:=h
 cases b with
 | true=>
  simp [hb]
  refine hK _ ⟨?_,?_⟩ ?_<;>simp [e1,m1]
 | false=>
  simp [hb,e1,m1]
  refine b6 rfl rfl (.inl rfl) (b0a u hs) ?_
  have e:((100:Int) < ((W0 u).length:Int))↔100 < (W0 u).length:=by omega
  simp [hb,e1,m1,tx,b9]
  refine hK _ ⟨?_,?_⟩ ?_<;>simp [e1,m1,c28,e,tx,num]
def c29 (u:LUrl):Bool:=!W1 u.frag [] || c28 u
theorem okops37 (hs:u.Small) (h:UO st u) (hb:st.env 39=.val (.bool b)) (hK:∀ st',UO st' u→st'.env 50=.val (.bool (b || c29 u))→Ks.k st'):EO Tryz.prog ir217_ops1_37 st (Ks:=Ks) (kx:=kx):=by
 unfold ir217_ops1_37
 have e3:(⟨#[]⟩:ByteArray)=bs []:=rfl
 cases b with
 | true=>
  simp [hb]
  refine okops43 (b:=true) hs ⟨?_,?_⟩ ?_ (fun st' q1 q2=>hK st' q1 ?_)
  · simp [h.e1]
  · simp [h.m1]
  · simp
  · simpa using q2
 | false=>
  simp [hb,h.e1,h.m1,e3,tx]
  refine b6 rfl rfl (.inl rfl) (a7d u.frag [] hs.2.2.2.2.2.1 (by simp)) ?_
  simp [hb,e3,tx]
  refine okops43 (b:=!W1 u.frag []) hs ⟨?_,?_⟩ ?_ (fun st' q1 q2=>hK st' q1 ?_)
  · simp [h.e1]
  · simp [h.m1]
  · simp
  · simpa [c29] using q2
def c3a (u:LUrl):Bool:=!W1 u.query [35] || c29 u
theorem okops31 (hs:u.Small) (h:UO st u) (hb:st.env 33=.val (.bool b)) (hK:∀ st',UO st' u→st'.env 50=.val (.bool (b || c3a u))→Ks.k st'):EO Tryz.prog ir217_ops1_31 st (Ks:=Ks) (kx:=kx):=by
 unfold ir217_ops1_31
 have e3:(⟨#[35]⟩:ByteArray)=bs [35]:=rfl
 cases b with
 | true=>
  simp [hb]
  refine okops37 (b:=true) hs ⟨?_,?_⟩ ?_ (fun st' q1 q2=>hK st' q1 ?_)
  · simp [h.e1]
  · simp [h.m1]
  · simp
  · simpa using q2
 | false=>
  simp [hb,h.e1,h.m1,e3,tx]
  refine b6 rfl rfl (.inl rfl) (a7d u.query [35] hs.2.2.2.2.1 (by simp)) ?_
  simp [hb,e3,tx]
  refine okops37 (b:=!W1 u.query [35]) hs ⟨?_,?_⟩ ?_ (fun st' q1 q2=>hK st' q1 ?_)
  · simp [h.e1]
  · simp [h.m1]
  · simp
  · simpa [c3a] using q2
def c3b (u:LUrl):Bool:=!W1 u.path [63,35] || c3a u
theorem okops25 (hs:u.Small) (h:UO st u) (hb:st.env 27=.val (.bool b)) (hK:∀ st',UO st' u→st'.env 50=.val (.bool (b || c3b u))→Ks.k st'):EO Tryz.prog ir217_ops1_25 st (Ks:=Ks) (kx:=kx):=by
 unfold ir217_ops1_25
 have e3:(⟨#[63,35]⟩:ByteArray)=bs [63,35]:=rfl
 cases b with
 | true=>
  simp [hb]
  refine okops31 (b:=true) hs ⟨?_,?_⟩ ?_ (fun st' q1 q2=>hK st' q1 ?_)
  · simp [h.e1]
  · simp [h.m1]
  · simp
  · simpa using q2
 | false=>
  simp [hb,h.e1,h.m1,e3,tx]
  refine b6 rfl rfl (.inl rfl) (a7d u.path [63,35] hs.2.2.2.1 (by simp)) ?_
  simp [hb,e3,tx]
  refine okops31 (b:=!W1 u.path [63,35]) hs ⟨?_,?_⟩ ?_ (fun st' q1 q2=>hK st' q1 ?_)
  · simp [h.e1]
  · simp [h.m1]
  · simp
  · simpa [c3b] using q2
def b3s (u:LUrl):Bool:=(!u.hasF && !decide (u.frag=[])) || c3b u
theorem okops15 (hs:u.Small) (h:UO st u) (hb:st.env 17=.val (.bool b)) (hK:∀ st',UO st' u→st'.env 50=.val (.bool (b || b3s u))→Ks.k st'):EO Tryz.prog ir217_ops1_15 st (Ks:=Ks) (kx:=kx):=by
 unfold ir217_ops1_15
 have e3:(⟨#[]⟩:ByteArray)=bs []:=rfl
 cases b with
 | true=>
  simp [hb]
  refine okops25 (b:=true) hs ⟨?_,?_⟩ ?_ (fun st' q1 q2=>hK st' q1 ?_)
  · simp [h.e1]
  · simp [h.m1]
  · simp
  · simpa using q2
 | false=>
  cases hf:u.hasF with
  | true=>
   simp [hb,h.e1,h.m1,e3,tx,hf]
   refine okops25 (b:=false) hs ⟨?_,?_⟩ ?_ (fun st' q1 q2=>hK st' q1 ?_)
   · simp [h.e1]
   · simp [h.m1]
   · simp
   · simpa [b3s,hf] using q2
  | false=>
   simp [hb,h.e1,h.m1,e3,tx,hf,G9]
   refine okops25 (b:=!decide (u.frag=[])) hs ⟨?_,?_⟩ ?_ (fun st' q1 q2=>hK st' q1 ?_)
   · simp [h.e1]
   · simp [h.m1]
   · simp
   · simpa [b3s,hf] using q2
end
theorem c25 (u:LUrl) (hs:u.Small):d8 Tryz.prog 217 [.val (V7 u)] (.ret (.val (.bool (Q5 u))) []) []:=by
 refine f5 mixed ok217 rfl (fun _=>rfl) ?_
 unfold ir217
 rw [b7]
 have hlu:Q5 u=(U2 u.scheme && (u.hasQ || decide (u.query=[])) && (u.hasF || decide (u.frag=[])) && W1 u.path [63,35] && W1 u.query [35] && W1 u.frag [] && decide ((W0 u).length≤100) && a43 u):=rfl
 have hend:∀ st':St,UO st' u→∀ b,st'.env 50=.val (.bool (b || b3s u))→b=(!U2 u.scheme || (!u.hasQ && !decide (u.query=[]))) →
  CD (st'.env 50) (A:=⟨EC Tryz.prog (.seq (.reg [⟨some 2,.mov (.k (.val (.bool false))),none⟩]) .ret) st' (K:=⟨fun e st'=>ET e st' (Ks:=⟨fun st'=>EC Tryz.prog ir217_from2 st' (K:=⟨a1i [.t 2] (.val (.bool (Q5 u)))⟩)⟩) (K:=⟨a1i [.t 2] (.val (.bool (Q5 u)))⟩)⟩)⟩)
   (B:=⟨EC Tryz.prog .skip st' (K:=⟨fun e st'=>ET e st' (Ks:=⟨fun st'=>EC Tryz.prog ir217_from2 st' (K:=⟨a1i [.t 2] (.val (.bool (Q5 u)))⟩)⟩) (K:=⟨a1i [.t 2] (.val (.bool (Q5 u)))⟩)⟩)⟩):=by
  intro st' h b hb hbb
  have hlu2:Q5 u=(!(b || b3s u) && a43 u):=by
   rw [hlu,hbb]
   unfold b3s c3b c3a c29 c28
   have e:decide ((W0 u).length≤100)=!decide (100 < (W0 u).length):=by
    by_cases h:(W0 u).length≤100
    · have h':¬ 100 < (W0 u).length:=by omega
      simp [h,h']
    · have h':100 < (W0 u).length:=by omega
      simp [h,h']
   rw [e]
   cases U2 u.scheme<;>cases u.hasQ<;>cases u.hasF<;>cases decide (u.query=[])<;>cases decide (u.frag=[])<;>cases W1 u.path [63,35]<;>cases W1 u.query [35]<;>cases W1 u.frag []<;>cases decide (100 < (W0 u).length)<;>rfl
  rw [hb,hlu2]
  cases (b || b3s u) with
  | true=>simp
  | false=>
   simp only [y5,G3,y7,G1,y8,t6,y6,G2,m8,B2,H6,H7,k6,p9,q7,l4,y9,s8,l6,G0,y4,q9,q8,E1,E3,a04,a05,Option.getD_some,Option.getD_none,C7,u2,o9,D7,o8,o2,D9,o3,D8,D6,D5,I1,w9,o6,D3,w7,o5,D2,C5,D4,w8,D0,o1,w6,D1,I3,I2,C6,C8,o4,C9,x1,o7,B5,n5,C4,C3,C2,H8,v8,n7,C0,v6,n6,B9,B3,C1,v7,B7,n0,u9,B8,I0,H9,B4,u7,n9,B6,w5,n8,K2,J9,L5,K3,K7,K5,K4,L4,K6,K8,K9,L2,L3,z7,z6,z1,M8,M9,A8,G4,u3,E7,x3,L7,t7,R5,N2,M0,O4,O6,O5,R6,R7,J2,J4,J3,J5,J6,O1,x6,O0,E8,E9,F0,x7,a09,F7,y0,R3,R4,I4,N0,N1,Option.map_some,Option.map_none,F1,x8,x2,p5,E5,E6,I6,I5,P1,P0,J8,F8,F9,J7,O7,O8,I7,p7,I8,p6,N6,F6,F5,l5,O3,O9,J1,N7,N9,N8,x5,A9,B1,B0,l0,O2,S0,R9,N3,I9,V3,N4,p8,F3,F4,x9,F2,l3,u5,l2,u6,l1,L6,P2,P3,z8,A0,G6,G5,E4]
   refine f6 (fun h=>by cases h) (fun _=>?_)
   simp only [y5,G3,y7,G1,y8,t6,y6,G2,m8,B2,H6,H7,k6,p9,q7,l4,y9,s8,l6,G0,y4,q9,q8,E1,E3,a04,a05,Option.getD_some,Option.getD_none,C7,u2,o9,D7,o8,o2,D9,o3,D8,D6,D5,I1,w9,o6,D3,w7,o5,D2,C5,D4,w8,D0,o1,w6,D1,I3,I2,C6,C8,o4,C9,x1,o7,B5,n5,C4,C3,C2,H8,v8,n7,C0,v6,n6,B9,B3,C1,v7,B7,n0,u9,B8,I0,H9,B4,u7,n9,B6,w5,n8,K2,J9,L5,K3,K7,K5,K4,L4,K6,K8,K9,L2,L3,z7,z6,z1,M8,M9,A8,G4,u3,E7,x3,L7,t7,R5,N2,M0,O4,O6,O5,R6,R7,J2,J4,J3,J5,J6,O1,x6,O0,E8,E9,F0,x7,a09,F7,y0,R3,R4,I4,N0,N1,Option.map_some,Option.map_none,F1,x8,x2,p5,E5,E6,I6,I5,P1,P0,J8,F8,F9,J7,O7,O8,I7,p7,I8,p6,N6,F6,F5,l5,O3,O9,J1,N7,N9,N8,x5,A9,B1,B0,l0,O2,S0,R9,N3,I9,V3,N4,p8,F3,F4,x9,F2,l3,u5,l2,u6,l1,L6,P2,P3,z8,A0,G6,G5,E4]
   exact b6w u hs st' h.e1 h.m1
 simp [d9,i6,j6,b8,d7,V7,tx,num,b9]
 refine b6 rfl rfl (.inl rfl) (b9d u.scheme hs.1) ?_
 have e3:(⟨#[]⟩:ByteArray)=bs []:=rfl
 cases b1:U2 u.scheme with
 | false=>
  simp [tx,num,b9]
  refine okops15 (b:=true) hs ⟨?_,?_⟩ ?_ (fun st' q1 q2=>hend st' q1 true q2 (by simp [b1]))
  · simp
  · simp [tx,num]
  · simp
 | true=>
  cases hq:u.hasQ with
  | true=>
   simp [tx,num,b9,hq]
   refine okops15 (b:=false) hs ⟨?_,?_⟩ ?_ (fun st' q1 q2=>hend st' q1 false q2 (by simp [b1,hq]))
   · simp
   · simp [tx,num,hq]
   · simp
  | false=>
   simp [tx,num,b9,hq,e3,G9]
   refine okops15 (b:=!decide (u.query=[])) hs ⟨?_,?_⟩ ?_ (fun st' q1 q2=>hend st' q1 _ q2 (by simp [b1,hq]))
   · simp
   · simp [tx,num,hq]
   · simp
end Go.Proofs
end
section
namespace Go.Proofs
open Go.PW Go.KP
attribute [local simp] RV.cells RV.one PV.cells PV.solid PV.one t8 f9 H0 A5 RV.ofCells elems PV.killL
variable [GF]
abbrev prs (r:LUrl×Bool):Kx (PExit→St→Prop):=⟨a1i [.c 2 true 9,.t 3] (a4u r)⟩
structure UP (st:St) (u:LUrl) (r:Tx):Prop where
 e2:st.env 2=.ptr 2 0
 e5:st.env 5=.ptr 5 0
 e6:st.env 6=.val (tx r)
 m2:st.mem 2=.box (f7 LUrl.zero)
 m5:st.mem 5=.box (f7 u)
theorem a3a (t:Tx) (k:Nat):List.drop k (List.take t.length t)=t.drop k:=by rw [List.take_length]
theorem a47 (u:LUrl) (hs:u.Small) (r:Tx) (st:St) (h:UP st u r):EC Tryz.prog ir191_from18 st (K:=prs (u,Q5 u)):=by
 unfold ir191_from18
 obtain ⟨e2,e5,e6,m2,m5⟩:=h
 simp [e2,e5,m2,m5,f7,f9,tx,num]
 refine m0 rfl rfl (.inl rfl) (c25 u hs) ?_
 simp [e2,e5,m2,m5,f7,f9,tx,num]
 refine a57 (id:=2) ?_ ?_ ?_
 · simp [e2]
 · simp [e2,f7,tx,num]
 · simp
theorem a0g (st:St) (e2:st.env 2=.ptr 2 0) (m2:st.mem 2=.box (f7 LUrl.zero)) (e3:st.env 3=.val (.bool false)):a1i [.c 2 true 9,.t 3] (a4u (LUrl.zero,false)) .ret st:=
 a57 e2 m2 e3
def S4 (u:LUrl) (r:Tx):LUrl×Bool:=match a1l u.scheme r with
 | none=>(LUrl.zero,false)
 | some p=>({ u with port:=p },Q5 { u with port:=p })
theorem c0r {t:Tx} {n:Int} (h:V1 t=some n):n≤1000000000000000000:=by
 obtain ⟨_,_,u,h1,h2,h3,h4⟩:=a5g h
 have:=b1o u h2
 have h5:T8 u < 10 ^ 18:=Nat.lt_of_lt_of_le this (Nat.pow_le_pow_right (by omega) h3)
 have h6:(10:Nat) ^ 18=1000000000000000000:=by decide
 rcases h4 with h4 | h4<;>omega
theorem b5m (u:LUrl) (hs:u.Small) (hp:u.port=0) (r:Tx) (hr:r.length < 1099511627776) (st:St) (h:UP st u r) (e4:st.env 4=.val (num (J0 r 58))):EC Tryz.prog ir191_from17 st (K:=prs (S4 u r)):=by
 unfold ir191_from17
 obtain ⟨e2,e5,e6,m2,m5⟩:=h
 have hle:=a0k r 58
 by_cases hc:58∈r
 · have hlt:=U6.2 hc
   have g1:((J0 r 58:Nat):Int) < (r.length:Int):=by omega
   have g2:IntKind.i64.wrap ((J0 r 58:Nat)+1:Int)=((J0 r 58+1:Nat):Int):=by rw [wrap_i64 (by omega) (by omega)];omega
   have g3:J0 r 58+1≤r.length:=by omega
   have g4:(0:Int)≤((J0 r 58:Nat):Int)+1:=by omega
   simp [e2,e4,e5,e6,m2,m5,tx,num,b9,g1,g2,g3,g4,Q6,a3a,hlt]
   have hn:=b9f (A3 r 58) (by have:=X3 r 58;omega)
   cases hnum:V1 (A3 r 58) with
   | none=>
    rw [hnum] at hn
    refine V4 rfl rfl (.inl rfl) hn ?_
    rw [show S4 u r=(LUrl.zero,false) by simp [S4,a1l,hc,hnum]]
    simp [e2,e4,e5,e6,m2,m5,tx,num,f7]
    refine a0g _ ?_ ?_ ?_
    · simp [e2]
    · simp [f7,LUrl.zero,tx,num,bs]
    · simp
   | some n=>
    have hn1:=c0r hnum
    rw [hnum] at hn
    refine V4 rfl rfl (.inl rfl) hn ?_
    by_cases hin:1≤n∧n≤65535
    · simp [e2,e4,e5,e6,m2,m5,tx,num,f7]
      refine b6 rfl rfl (.inl rfl) (S6 .i64 n 1 65535) ?_
      simp [e2,e4,e5,e6,m2,m5,tx,num,f7,hin]
      refine b6 rfl rfl (.inl rfl) (b3k u.scheme) ?_
      by_cases hu:n=Z3 u.scheme
      · have e:S4 u r=(u,Q5 u):=by
         have hl:a1l u.scheme r=some 0:=by
          simp only [a1l,hc,hnum,hin,if_true,and_self]
          rw [if_pos hu]
         have:({ u with port:=0 }:LUrl)=u:=by rw [← hp]
         simp only [S4,hl,this]
        rw [e]
        simp [e2,e4,e5,e6,m2,m5,tx,num,f7,hu]
        refine a47 u hs r _ ⟨?_,?_,?_,?_,?_⟩<;>simp [e2,e5,e6,m2,m5,f7,tx,num]
      · have e:S4 u r=({ u with port:=n },Q5 { u with port:=n }):=by
         simp only [S4,a1l,hc,hnum,hin,if_true,and_self,hu,if_false]
        rw [e]
        simp [e2,e4,e5,e6,m2,m5,tx,num,f7,hu]
        refine a47 { u with port:=n } ?_ r _ ⟨?_,?_,?_,?_,?_⟩
        · exact ⟨hs.1,hs.2.1,hs.2.2.1,hs.2.2.2.1,hs.2.2.2.2.1,hs.2.2.2.2.2.1,by show n≤_;omega⟩
        all_goals simp [e2,e5,e6,m2,m5,f7,tx,num]
    · rw [show S4 u r=(LUrl.zero,false) by simp only [S4,a1l,hc,hnum,hin,if_true,if_false]]
      simp [e2,e4,e5,e6,m2,m5,tx,num,f7]
      refine b6 rfl rfl (.inl rfl) (S6 .i64 n 1 65535) ?_
      have hd:decide (1≤n∧n≤65535)=false:=decide_eq_false hin
      rw [hd]
      simp [e2,e4,e5,e6,m2,m5,tx,num,f7]
      refine a0g _ ?_ ?_ ?_
      · simp [e2]
      · simp [f7,LUrl.zero,tx,num,bs]
      · simp
 · have hge:J0 r 58=r.length:=by have:=mt U6.1 hc;omega
   have e:S4 u r=(u,Q5 u):=by
    simp only [S4,a1l,hc,if_false]
    have:({ u with port:=0 }:LUrl)=u:=by rw [← hp]
    rw [this]
   rw [e]
   simp [e2,e4,e5,e6,m2,m5,tx,num,b9,hge]
   refine a47 u hs r _ ⟨?_,?_,?_,?_,?_⟩<;>simp [e2,e5,e6,m2,m5,f7,tx,num]
theorem a81 (sc us pa qu fr:Tx) (hq hf:Bool) (h1:sc.length < 1099511627776) (h2:us.length < 1099511627776) (h3:pa.length < 1099511627776) (h4:qu.length < 1099511627776) (h5:fr.length < 1099511627776) (r:Tx) (hr:r.length < 1099511627776) (st:St)
 (h:UP st ⟨sc,us,[],0,pa,qu,fr,hq,hf⟩ r):EC Tryz.prog ir191_from15 st (K:=prs (S4 ⟨sc,us,Q0 (j8 r 58),0,pa,qu,fr,hq,hf⟩ r)):=by
 unfold ir191_from15
 obtain ⟨e2,e5,e6,m2,m5⟩:=h
 have hle:=a0k r 58
 simp [e2,e5,e6,m2,m5,tx,num,b9]
 refine b6 rfl rfl (.inl rfl) (a06 r 58 hr) ?_
 simp [e2,e5,e6,m2,m5,tx,num,b9,hle,Q6]
 refine b6 rfl rfl (.inl rfl) (b3m (j8 r 58) (by have:=Q3 r 58;omega)) ?_
 simp [e2,e5,e6,m2,m5,tx,num,b9,f7]
 refine b5m ⟨sc,us,Q0 (j8 r 58),0,pa,qu,fr,hq,hf⟩ ?_ rfl r hr _ ⟨?_,?_,?_,?_,?_⟩ ?_
 · refine ⟨h1,h2,?_,h3,h4,h5,by show (0:Int)≤_;omega⟩
   have:=Q3 r 58
   simp [Q0];omega
 all_goals simp [e2,e5,e6,m2,m5,f7,tx,num]
theorem a82 (sc pa qu fr:Tx) (hq hf:Bool) (h1:sc.length < 1099511627776) (h3:pa.length < 1099511627776) (h4:qu.length < 1099511627776) (h5:fr.length < 1099511627776) (r:Tx) (hr:r.length < 1099511627776) (st:St)
 (h:UP st ⟨sc,[],[],0,pa,qu,fr,hq,hf⟩ r):EC Tryz.prog ir191_from14 st (K:=prs (S4 ⟨sc,if 64∈r then j8 r 64 else [],Q0 (j8 (if 64∈r then A3 r 64 else r) 58),0,pa,qu,fr,hq,hf⟩ (if 64∈r then A3 r 64 else r))):=by
 unfold ir191_from14
 obtain ⟨e2,e5,e6,m2,m5⟩:=h
 have hle:=a0k r 64
 simp [e2,e5,e6,m2,m5,tx,num,b9]
 refine b6 rfl rfl (.inl rfl) (a06 r 64 hr) ?_
 by_cases hc:64∈r
 · have hlt:=U6.2 hc
   have g2:IntKind.i64.wrap ((J0 r 64:Nat)+1:Int)=((J0 r 64+1:Nat):Int):=by rw [wrap_i64 (by omega) (by omega)];omega
   have g3:J0 r 64+1≤r.length:=by omega
   have g4:(0:Int)≤((J0 r 64:Nat):Int)+1:=by omega
   simp [e2,e5,e6,m2,m5,tx,num,b9,f7,hlt,hle,g2,g3,g4,Q6,a3a]
   have e:(if 64∈r then A3 r 64 else r)=A3 r 64:=if_pos hc
   rw [if_pos hc,e]
   refine a81 sc (j8 r 64) pa qu fr hq hf h1 (by have:=Q3 r 64;omega) h3 h4 h5 (A3 r 64) (by have:=X3 r 64;omega) _ ⟨?_,?_,?_,?_,?_⟩<;>simp [e2,e5,e6,m2,m5,f7,tx,num,j8,A3]
 · have hge:J0 r 64=r.length:=by have:=mt U6.1 hc;omega
   simp [e2,e5,e6,m2,m5,tx,num,b9,hge]
   have e:(if 64∈r then A3 r 64 else r)=r:=if_neg hc
   rw [if_neg hc,e]
   refine a81 sc [] pa qu fr hq hf h1 (by simp) h3 h4 h5 r hr _ ⟨?_,?_,?_,?_,?_⟩<;>simp [e2,e5,e6,m2,m5,f7,tx,num]
def b1m (sc pa qu fr:Tx) (hq hf:Bool) (r:Tx):LUrl×Bool:=
 S4 ⟨sc,if 64∈r then j8 r 64 else [],Q0 (j8 (if 64∈r then A3 r 64 else r) 58),0,pa,qu,fr,hq,hf⟩ (if 64∈r then A3 r 64 else r)
theorem b5n (sc qu fr:Tx) (hq hf:Bool) (h1:sc.length < 1099511627776) (h4:qu.length < 1099511627776) (h5:fr.length < 1099511627776) (r:Tx) (hr:r.length < 1099511627776) (st:St)
 (h:UP st ⟨sc,[],[],0,r.drop (J0 r 47),qu,fr,hq,hf⟩ r) (e4:st.env 4=.val (num (J0 r 47))):EC Tryz.prog ir191_from12 st (K:=prs (b1m sc (if 47∈r then r.drop (J0 r 47) else [47]) qu fr hq hf (j8 r 47))):=by
 unfold ir191_from12
 obtain ⟨e2,e5,e6,m2,m5⟩:=h
 have hle:=a0k r 47
 have e3:(⟨#[]⟩:ByteArray)=bs []:=rfl
 by_cases hc:47∈r
 · have hlt:=U6.2 hc
   have hne:¬ r.drop (J0 r 47)=[]:=by
    intro e;have:=congrArg List.length e;simp at this;omega
   have hne2:¬ r.length≤J0 r 47:=by omega
   rw [if_pos hc]
   simp [e2,e4,e5,e6,m2,m5,tx,num,b9,f7,e3,G9,hne,hne2,hle,Q6]
   refine a82 sc (r.drop (J0 r 47)) qu fr hq hf h1 (by simp;omega) h4 h5 (j8 r 47) (by have:=Q3 r 47;omega) _ ⟨?_,?_,?_,?_,?_⟩<;>simp [e2,e5,e6,m2,m5,f7,tx,num,j8]
 · have hge:J0 r 47=r.length:=by have:=mt U6.1 hc;omega
   have e4':(⟨#[47]⟩:ByteArray)=bs [47]:=rfl
   rw [if_neg hc]
   simp [e2,e4,e5,e6,m2,m5,tx,num,b9,f7,e3,e4',G9,hge,Q6]
   refine a82 sc [47] qu fr hq hf h1 (by simp) h4 h5 (j8 r 47) (by have:=Q3 r 47;omega) _ ⟨?_,?_,?_,?_,?_⟩<;>simp [e2,e5,e6,m2,m5,f7,tx,num,j8,hge]
def a64 (sc qu fr:Tx) (hq hf:Bool) (r:Tx):LUrl×Bool:=b1m sc (if 47∈r then r.drop (J0 r 47) else [47]) qu fr hq hf (j8 r 47)
theorem a83 (sc qu fr:Tx) (hq hf:Bool) (h1:sc.length < 1099511627776) (h4:qu.length < 1099511627776) (h5:fr.length < 1099511627776) (r:Tx) (hr:r.length < 1099511627776) (st:St)
 (h:UP st ⟨sc,[],[],0,[],qu,fr,hq,hf⟩ r):EC Tryz.prog ir191_from10 st (K:=prs (a64 sc qu fr hq hf r)):=by
 unfold ir191_from10
 obtain ⟨e2,e5,e6,m2,m5⟩:=h
 have hle:=a0k r 47
 simp [e2,e5,e6,m2,m5,tx,num,b9]
 refine b6 rfl rfl (.inl rfl) (a06 r 47 hr) ?_
 simp [e2,e5,e6,m2,m5,tx,num,b9,hle,Q6,f7,a3a]
 refine b5n sc qu fr hq hf h1 h4 h5 r hr _ ⟨?_,?_,?_,?_,?_⟩ ?_<;>simp [e2,e5,e6,m2,m5,f7,tx,num]
theorem b0p (sc fr:Tx) (hf:Bool) (h1:sc.length < 1099511627776) (h5:fr.length < 1099511627776) (r:Tx) (hr:r.length < 1099511627776) (st:St)
 (h:UP st ⟨sc,[],[],0,[],[],fr,false,hf⟩ r):EC Tryz.prog ir191_from9 st (K:=prs (a64 sc (A3 r 63) fr (decide (63∈r)) hf (j8 r 63))):=by
 unfold ir191_from9
 obtain ⟨e2,e5,e6,m2,m5⟩:=h
 have hle:=a0k r 63
 simp [e2,e5,e6,m2,m5,tx,num,b9]
 refine b6 rfl rfl (.inl rfl) (a06 r 63 hr) ?_
 by_cases hc:63∈r
 · have hlt:=U6.2 hc
   have g2:IntKind.i64.wrap ((J0 r 63:Nat)+1:Int)=((J0 r 63+1:Nat):Int):=by rw [wrap_i64 (by omega) (by omega)];omega
   have g3:J0 r 63+1≤r.length:=by omega
   have g4:(0:Int)≤((J0 r 63:Nat):Int)+1:=by omega
   simp [e2,e5,e6,m2,m5,tx,num,b9,f7,hlt,hle,g2,g3,g4,Q6,a3a]
   rw [decide_eq_true hc]
   refine a83 sc (A3 r 63) fr true hf h1 (by have:=X3 r 63;omega) h5 (j8 r 63) (by have:=Q3 r 63;omega) _ ⟨?_,?_,?_,?_,?_⟩<;>simp [e2,e5,e6,m2,m5,f7,tx,num,j8,A3]
 · have hge:J0 r 63=r.length:=by have:=mt U6.1 hc;omega
   simp [e2,e5,e6,m2,m5,tx,num,b9,hge]
   rw [decide_eq_false hc,a0t hc,a73 hc]
   refine a83 sc [] fr false hf h1 (by simp) h5 r hr _ ⟨?_,?_,?_,?_,?_⟩<;>simp [e2,e5,e6,m2,m5,f7,tx,num]
theorem b7i (sc:Tx) (h1:sc.length < 1099511627776) (r:Tx) (hr:r.length < 1099511627776) (st:St)
 (h:UP st ⟨sc,[],[],0,[],[],[],false,false⟩ r):EC Tryz.prog ir191_from8 st (K:=prs (a39 sc r)):=by
 unfold ir191_from8
 obtain ⟨e2,e5,e6,m2,m5⟩:=h
 have hle:=a0k r 35
 have e:a39 sc r=a64 sc (A3 (j8 r 35) 63) (A3 r 35) (decide (63∈j8 r 35)) (decide (35∈r)) (j8 (j8 r 35) 63):=rfl
 rw [e]
 simp [e2,e5,e6,m2,m5,tx,num,b9]
 refine b6 rfl rfl (.inl rfl) (a06 r 35 hr) ?_
 by_cases hc:35∈r
 · have hlt:=U6.2 hc
   have g2:IntKind.i64.wrap ((J0 r 35:Nat)+1:Int)=((J0 r 35+1:Nat):Int):=by rw [wrap_i64 (by omega) (by omega)];omega
   have g3:J0 r 35+1≤r.length:=by omega
   have g4:(0:Int)≤((J0 r 35:Nat):Int)+1:=by omega
   simp [e2,e5,e6,m2,m5,tx,num,b9,f7,hlt,hle,g2,g3,g4,Q6,a3a]
   rw [decide_eq_true hc]
   refine b0p sc (A3 r 35) true h1 (by have:=X3 r 35;omega) (j8 r 35) (by have:=Q3 r 35;omega) _ ⟨?_,?_,?_,?_,?_⟩<;>simp [e2,e5,e6,m2,m5,f7,tx,num,j8,A3]
 · have hge:J0 r 35=r.length:=by have:=mt U6.1 hc;omega
   simp [e2,e5,e6,m2,m5,tx,num,b9,hge]
   rw [decide_eq_false hc,a0t hc,a73 hc]
   refine b0p sc [] false h1 (by simp) r hr _ ⟨?_,?_,?_,?_,?_⟩<;>simp [e2,e5,e6,m2,m5,f7,tx,num]
theorem b7j (sc:Tx) (h1:sc.length < 1099511627776) (r:Tx) (hr:r.length < 1099511627776) (st:St)
 (h:UP st ⟨sc,[],[],0,[],[],[],false,false⟩ r):EC Tryz.prog ir191_from5 st (K:=prs (if Z1 sc then if r.take 2=[47,47] then a39 sc (r.drop 2) else (LUrl.zero,false) else (⟨sc,[],[],0,j8 (j8 r 35) 63,[],[],false,false⟩,Q5 ⟨sc,[],[],0,j8 (j8 r 35) 63,[],[],false,false⟩))):=by
 unfold ir191_from5
 obtain ⟨e2,e5,e6,m2,m5⟩:=h
 have e7:(⟨#[47,47]⟩:ByteArray)=bs [47,47]:=rfl
 simp [e2,e5,e6,m2,m5,tx,num,b9,f7]
 refine b6 rfl rfl (.inl rfl) (a6x sc) ?_
 by_cases hw:Z1 sc=true
 · rw [if_pos hw]
   by_cases h2:r.length < 2
   · have h2':(r.length:Int) < 2:=by omega
     have ht:¬ r.take 2=[47,47]:=fun e=>by have:=congrArg List.length e;simp at this;omega
     rw [if_neg ht]
     simp [e2,e5,e6,m2,m5,tx,num,b9,f7,hw,h2']
     refine a0g _ ?_ ?_ ?_
     · simp [e2]
     · simp [f7,LUrl.zero,tx,num,bs]
     · simp
   · have h2':¬ (r.length:Int) < 2:=by omega
     have h2'':(2:Int)≤r.length:=by omega
     have h2n:2≤r.length:=by omega
     by_cases ht:r.take 2=[47,47]
     · rw [if_pos ht]
       simp [e2,e5,e6,m2,m5,tx,num,b9,f7,hw,h2',h2'',h2n,e7,Q6,ht,a3a]
       refine b7i sc h1 (r.drop 2) (by simp;omega) _ ⟨?_,?_,?_,?_,?_⟩<;>simp [e2,e5,e6,m2,m5,f7,tx,num]
     · rw [if_neg ht]
       simp [e2,e5,e6,m2,m5,tx,num,b9,f7,hw,h2',h2'',h2n,e7,Q6,G9,ht]
       refine a0g _ ?_ ?_ ?_
       · simp [e2]
       · simp [f7,LUrl.zero,tx,num,bs]
       · simp
 · rw [if_neg hw]
   have hl1:=a0k r 35
   have hl2:=a0k (j8 r 35) 63
   have hl3:=Q3 r 35
   have hl4:=Q3 (j8 r 35) 63
   simp [e2,e5,e6,m2,m5,tx,num,b9,f7,hw]
   refine b6 rfl rfl (.inl rfl) (a06 r 35 hr) ?_
   simp [e2,e5,e6,m2,m5,tx,num,b9,f7,hw,hl1,Q6]
   refine b6 rfl rfl (.inl rfl) (a06 (j8 r 35) 63 (by omega)) ?_
   have hl2':J0 (j8 r 35) 63≤J0 r 35∧J0 (j8 r 35) 63≤r.length:=by
    refine ⟨?_,by omega⟩
    have:(j8 r 35).length≤J0 r 35:=by unfold j8;simp;omega
    omega
   have hl2i:((J0 (j8 r 35) 63:Nat):Int)≤(min (J0 r 35) r.length:Nat):=by omega
   simp [e2,e5,e6,m2,m5,tx,num,b9,f7,hw,hl1,hl2',Q6,f9]
   refine m0 rfl rfl (.inl rfl) (c25 ⟨sc,[],[],0,j8 (j8 r 35) 63,[],[],false,false⟩ ⟨h1,by simp,by simp,by show (j8 (j8 r 35) 63).length < _;omega,by simp,by simp,by show (0:Int)≤_;omega⟩) ?_
   simp [e2,e5,e6,m2,m5,tx,num,b9,f7,hw,hl1,Q6,f9]
   refine a57 (id:=2) ?_ ?_ ?_
   · simp [e2]
   · simp [f7,tx,num,j8]
   · simp
theorem b3l (t:Tx) (ht:t.length < 1099511627776):d8 Tryz.prog 191 [.val (tx t)] (.ret (a4u (A6 t)) []) []:=by
 refine f5 mixed ok191 rfl (fun _=>rfl) ?_
 unfold ir191
 rw [b7]
 have hle:=a0k t 58
 simp [d9,i6,j6,b8,d7,tx,num,b9]
 refine b6 rfl rfl (.inl rfl) (a06 t 58 ht) ?_
 by_cases hc:58∈t
 · have hlt:=U6.2 hc
   have hne:¬ ((J0 t 58:Nat):Int)=(t.length:Int):=by omega
   have hne':¬ J0 t 58=t.length:=by omega
   have g2:IntKind.i64.wrap ((J0 t 58:Nat)+1:Int)=((J0 t 58+1:Nat):Int):=by rw [wrap_i64 (by omega) (by omega)];omega
   have g3:J0 t 58+1≤t.length:=by omega
   have g4:(0:Int)≤((J0 t 58:Nat):Int)+1:=by omega
   simp [tx,num,b9,hlt,hle,hne,hne',Q6]
   refine b6 rfl rfl (.inl rfl) (b3m (j8 t 58) (by have:=Q3 t 58;omega)) ?_
   simp [tx,num,b9,hlt,hle,hne,hne',g2,g3,g4,Q6,a3a]
   rw [show A6 t=(if Z1 (Q0 (j8 t 58)) then if (A3 t 58).take 2=[47,47] then a39 (Q0 (j8 t 58)) ((A3 t 58).drop 2) else (LUrl.zero,false) else (⟨Q0 (j8 t 58),[],[],0,j8 (j8 (A3 t 58) 35) 63,[],[],false,false⟩,Q5 ⟨Q0 (j8 t 58),[],[],0,j8 (j8 (A3 t 58) 35) 63,[],[],false,false⟩)) by unfold A6;rw [if_pos hc]]
   refine b7j (Q0 (j8 t 58)) (by have:=Q3 t 58;simp [Q0];omega) (A3 t 58) (by have:=X3 t 58;omega) _ ⟨?_,?_,?_,?_,?_⟩<;>simp [f7,tx,num,LUrl.zero,bs,A3]
 · have hge:J0 t 58=t.length:=by have:=mt U6.1 hc;omega
   rw [show A6 t=(LUrl.zero,false) by unfold A6;rw [if_neg hc]]
   simp [tx,num,b9,hge]
   refine a0g _ ?_ ?_ ?_
   · simp
   · simp [f7,LUrl.zero,tx,num,bs]
   · simp
end Go.Proofs
end
section
namespace Go.Proofs
open Go.PW Go.KP
attribute [local simp] RV.cells RV.one PV.cells PV.solid PV.one t8 f9 H0 A5 RV.ofCells elems PV.killL
variable [GF]
structure TO (st:St) (x:LTarget) (u:LUrl):Prop where
 e1:st.env 1=.ptr 1 0
 e3:st.env 3=.ptr 3 0
 m1:st.mem 1=.box [.val (tx x.url),.val (num x.prio),.val (num x.weight)]
 m3:st.mem 3=.box (f7 u)
section
variable {Ks:Kx (St→Prop)} {st:St} {x:LTarget} {u:LUrl} {b:Bool}
def tg35 (x:LTarget):Bool:=decide (1≤x.weight∧x.weight≤9)
theorem c59 (h:TO st x u) (hb:st.env 34=.val (.bool b)) (hK:∀ st',TO st' x u→st'.env 38=.val (.bool (b && tg35 x))→Ks.k st'):EX Tryz.prog ir150_o35 st (Ks:=Ks):=by
 unfold ir150_o35
 cases b with
 | false=>
  simp [hb]
  refine hK _ ⟨?_,?_,?_,?_⟩ ?_<;>simp [h.e1,h.e3,h.m1,h.m3]
 | true=>
  simp [hb,h.e1,h.m1,num]
  refine m0 rfl rfl (.inl rfl) (S6 .i64 x.weight 1 9) ?_
  simp [hb]
  refine hK _ ⟨?_,?_,?_,?_⟩ ?_<;>simp [h.e1,h.e3,h.m1,h.m3,tg35]
def tg30 (x:LTarget):Bool:=decide (1≤x.prio∧x.prio≤9) && tg35 x
theorem c6a (h:TO st x u) (hb:st.env 29=.val (.bool b)) (hK:∀ st',TO st' x u→st'.env 38=.val (.bool (b && tg30 x))→Ks.k st'):EX Tryz.prog ir150_o30 st (Ks:=Ks):=by
 unfold ir150_o30
 cases b with
 | false=>
  simp [hb]
  refine c59 (x:=x) (u:=u) (b:=false) ⟨?_,?_,?_,?_⟩ ?_ (fun st' q1 q2=>hK st' q1 (by simpa using q2))<;>simp [h.e1,h.e3,h.m1,h.m3]
 | true=>
  simp [hb,h.e1,h.m1,num]
  refine m0 rfl rfl (.inl rfl) (S6 .i64 x.prio 1 9) ?_
  simp [hb]
  refine c59 (x:=x) (u:=u) (b:=decide (1≤x.prio∧x.prio≤9)) ⟨?_,?_,?_,?_⟩ ?_ (fun st' q1 q2=>hK st' q1 (by rw [q2];simp [tg30]))<;>simp [h.e1,h.e3,h.m1,h.m3]
def tg23 (x:LTarget) (u:LUrl):Bool:=decide (W0 u=x.url) && tg30 x
theorem c6b (hs:u.Small) (h:TO st x u) (hb:st.env 22=.val (.bool b)) (hK:∀ st',TO st' x u→st'.env 38=.val (.bool (b && tg23 x u))→Ks.k st'):EX Tryz.prog ir150_o23 st (Ks:=Ks):=by
 unfold ir150_o23
 cases b with
 | false=>
  simp [hb]
  refine c6a (x:=x) (u:=u) (b:=false) ⟨?_,?_,?_,?_⟩ ?_ (fun st' q1 q2=>hK st' q1 (by simpa using q2))<;>simp [h.e1,h.e3,h.m1,h.m3]
 | true=>
  simp [hb,h.e1,h.m1,h.e3,h.m3,num,tx,f7,f9]
  refine m0 rfl rfl (.inl rfl) (b0a u hs) ?_
  simp [hb,h.e1,h.m1,num,tx,G9]
  refine c6a (x:=x) (u:=u) (b:=decide (W0 u=x.url)) ⟨?_,?_,?_,?_⟩ ?_ (fun st' q1 q2=>hK st' q1 (by rw [q2];simp [tg23]))<;>simp [h.e1,h.e3,h.m1,h.m3]
def tg18 (x:LTarget) (u:LUrl):Bool:=!u.hasF && tg23 x u
theorem c6c (hs:u.Small) (h:TO st x u) (hb:st.env 17=.val (.bool b)) (hK:∀ st',TO st' x u→st'.env 38=.val (.bool (b && tg18 x u))→Ks.k st'):EX Tryz.prog ir150_o18 st (Ks:=Ks):=by
 unfold ir150_o18
 cases b with
 | false=>
  simp [hb]
  refine c6b (x:=x) (u:=u) (b:=false) hs ⟨?_,?_,?_,?_⟩ ?_ (fun st' q1 q2=>hK st' q1 (by simpa using q2))<;>simp [h.e1,h.e3,h.m1,h.m3]
 | true=>
  simp [hb,h.e1,h.m1,h.e3,h.m3,num,tx,f7,f9]
  refine c6b (x:=x) (u:=u) (b:=!u.hasF) hs ⟨?_,?_,?_,?_⟩ ?_ (fun st' q1 q2=>hK st' q1 (by rw [q2];simp [tg18]))<;>simp [h.e1,h.e3,h.m1,h.m3,f7,tx,num]
end
theorem b05 (x:LTarget) (hx:x.url.length < 1099511627776):d8 Tryz.prog 150 [.val (i7 x)] (.ret (.val (.bool (N5 x))) []) []:=by
 refine f5 mixed ok150 rfl (fun _=>rfl) ?_
 unfold ir150
 rw [b7]
 have hs:=a9c hx
 simp [d9,i6,j6,b8,d7,i7,tx,num]
 have hp:=b3l x.url hx
 have e:N5 x=(((A6 x.url).2 && Z1 (A6 x.url).1.scheme) && tg18 x (A6 x.url).1):=by
  unfold N5 tg18 tg23 tg30 tg35
  simp only [Bool.and_assoc]
 rw [e]
 generalize A6 x.url=r at *
 obtain ⟨u,ok⟩:=r
 dsimp only at *
 refine V4 rfl rfl (.inl rfl) hp ?_
 simp [d9,i6,j6,b8,d7,V7,tx,num]
 cases ok with
 | false=>
  simp
  refine c6c (x:=x) (u:=u) (b:=false) hs ⟨?_,?_,?_,?_⟩ ?_ (fun st' q1 q2=>?_)
  all_goals simp [f7,tx,num]
  simp [q2,y5,G3,y7,G1,y8,t6,y6,G2,m8,B2,H6,H7,k6,p9,q7,l4,y9,s8,l6,G0,y4,q9,q8,E1,E3,a04,a05,Option.getD_some,Option.getD_none,C7,u2,o9,D7,o8,o2,D9,o3,D8,D6,D5,I1,w9,o6,D3,w7,o5,D2,C5,D4,w8,D0,o1,w6,D1,I3,I2,C6,C8,o4,C9,x1,o7,B5,n5,C4,C3,C2,H8,v8,n7,C0,v6,n6,B9,B3,C1,v7,B7,n0,u9,B8,I0,H9,B4,u7,n9,B6,w5,n8,K2,J9,L5,K3,K7,K5,K4,L4,K6,K8,K9,L2,L3,z7,z6,z1,M8,M9,A8,G4,u3,E7,x3,L7,t7,R5,N2,M0,O4,O6,O5,R6,R7,J2,J4,J3,J5,J6,O1,x6,O0,E8,E9,F0,x7,a09,F7,y0,R3,R4,I4,N0,N1,Option.map_some,Option.map_none,F1,x8,x2,p5,E5,E6,I6,I5,P1,P0,J8,F8,F9,J7,O7,O8,I7,p7,I8,p6,N6,F6,F5,l5,O3,O9,J1,N7,N9,N8,x5,A9,B1,B0,l0,O2,S0,R9,N3,I9,V3,N4,p8,F3,F4,x9,F2,l3,u5,l2,u6,l1,L6,P2,P3,z8,A0,G6,G5,E4]
 | true=>
  simp
  refine m0 rfl rfl (.inl rfl) (a6x u.scheme) ?_
  simp
  refine c6c (x:=x) (u:=u) (b:=Z1 u.scheme) hs ⟨?_,?_,?_,?_⟩ ?_ (fun st' q1 q2=>?_)
  all_goals simp [f7,tx,num]
  simp [q2,y5,G3,y7,G1,y8,t6,y6,G2,m8,B2,H6,H7,k6,p9,q7,l4,y9,s8,l6,G0,y4,q9,q8,E1,E3,a04,a05,Option.getD_some,Option.getD_none,C7,u2,o9,D7,o8,o2,D9,o3,D8,D6,D5,I1,w9,o6,D3,w7,o5,D2,C5,D4,w8,D0,o1,w6,D1,I3,I2,C6,C8,o4,C9,x1,o7,B5,n5,C4,C3,C2,H8,v8,n7,C0,v6,n6,B9,B3,C1,v7,B7,n0,u9,B8,I0,H9,B4,u7,n9,B6,w5,n8,K2,J9,L5,K3,K7,K5,K4,L4,K6,K8,K9,L2,L3,z7,z6,z1,M8,M9,A8,G4,u3,E7,x3,L7,t7,R5,N2,M0,O4,O6,O5,R6,R7,J2,J4,J3,J5,J6,O1,x6,O0,E8,E9,F0,x7,a09,F7,y0,R3,R4,I4,N0,N1,Option.map_some,Option.map_none,F1,x8,x2,p5,E5,E6,I6,I5,P1,P0,J8,F8,F9,J7,O7,O8,I7,p7,I8,p6,N6,F6,F5,l5,O3,O9,J1,N7,N9,N8,x5,A9,B1,B0,l0,O2,S0,R9,N3,I9,V3,N4,p8,F3,F4,x9,F2,l3,u5,l2,u6,l1,L6,P2,P3,z8,A0,G6,G5,E4]
def R8 (x:LPeer):List PV:=[.val (tx x.target.url),.val (num x.target.prio),.val (num x.target.weight),.val (num x.fails),.val (num x.retry),.val (.bool x.gone)]
structure PO (st:St) (l:List LPeer) (i:Nat) (x:LPeer):Prop where
 e0:st.env 0=.val (M5 l)
 e3:st.env 3=.val (num i)
 e4:st.env 4=.ptr 4 0
 m4:st.mem 4=.box (R8 x)
section
variable {Ks:Kx (St→Prop)} {kx:Kx (RV→St→Prop)} {st:St} {l:List LPeer} {i:Nat} {x:LPeer} {b:Bool}
def b34 (x:LPeer):Bool:=decide (x.fails=0) && !decide (x.retry=0)
theorem c6n (h:PO st l i x) (hb:st.env 35=.val (.bool b)) (hK:∀ st',PO st' l i x→st'.env 44=.val (.bool (b || b34 x))→Ks.k st'):EO Tryz.prog ir113_o36 st (Ks:=Ks) (kx:=kx):=by
 unfold ir113_o36
 cases b with
 | true=>
  simp [hb]
  refine hK _ ⟨?_,?_,?_,?_⟩ ?_<;>simp [h.e0,h.e3,h.e4,h.m4]
 | false=>
  by_cases h0:x.fails=0
  · by_cases h1:x.retry=0
    · simp [hb,h.e4,h.m4,R8,num,h0,h1]
      refine hK _ ⟨?_,?_,?_,?_⟩ ?_<;>simp [h.e0,h.e3,h.e4,h.m4,b34,h0,h1]
    · simp [hb,h.e4,h.m4,R8,num,h0,h1]
      refine hK _ ⟨?_,?_,?_,?_⟩ ?_<;>simp [h.e0,h.e3,h.e4,h.m4,b34,h0,h1]
  · simp [hb,h.e4,h.m4,R8,num,h0]
    refine hK _ ⟨?_,?_,?_,?_⟩ ?_<;>simp [h.e0,h.e3,h.e4,h.m4,b34,h0]
def c30 (x:LPeer):Bool:=!decide (0≤x.retry∧x.retry≤1000032) || b34 x
theorem c6o (h:PO st l i x) (hb:st.env 29=.val (.bool b)) (hK:∀ st',PO st' l i x→st'.env 44=.val (.bool (b || c30 x))→Ks.k st'):EO Tryz.prog ir113_o30 st (Ks:=Ks) (kx:=kx):=by
 unfold ir113_o30
 cases b with
 | true=>
  simp [hb]
  refine c6n (l:=l) (i:=i) (x:=x) (b:=true) ⟨?_,?_,?_,?_⟩ ?_ (fun st' q1 q2=>hK st' q1 (by simpa using q2))<;>simp [h.e0,h.e3,h.e4,h.m4]
 | false=>
  simp [hb,h.e4,h.m4,R8,num]
  refine b6 rfl rfl (.inl rfl) (S6 .i64 x.retry 0 1000032) ?_
  simp [hb]
  refine c6n (l:=l) (i:=i) (x:=x) (b:=!decide (0≤x.retry∧x.retry≤1000032)) ⟨?_,?_,?_,?_⟩ ?_ (fun st' q1 q2=>hK st' q1 (by rw [q2];simp [c30]))<;>simp [h.e0,h.e3,h.e4,h.m4]
def c0a (x:LPeer):Bool:=!decide (0≤x.fails∧x.fails≤1000000) || c30 x
theorem pops24 (h:PO st l i x) (hb:st.env 23=.val (.bool b)) (hK:∀ st',PO st' l i x→st'.env 44=.val (.bool (b || c0a x))→Ks.k st'):EO Tryz.prog ir113_o24 st (Ks:=Ks) (kx:=kx):=by
 unfold ir113_o24
 cases b with
 | true=>
  simp [hb]
  refine c6o (l:=l) (i:=i) (x:=x) (b:=true) ⟨?_,?_,?_,?_⟩ ?_ (fun st' q1 q2=>hK st' q1 (by simpa using q2))<;>simp [h.e0,h.e3,h.e4,h.m4]
 | false=>
  simp [hb,h.e4,h.m4,R8,num]
  refine b6 rfl rfl (.inl rfl) (S6 .i64 x.fails 0 1000000) ?_
  simp [hb]
  refine c6o (l:=l) (i:=i) (x:=x) (b:=!decide (0≤x.fails∧x.fails≤1000000)) ⟨?_,?_,?_,?_⟩ ?_ (fun st' q1 q2=>hK st' q1 (by rw [q2];simp [c0a]))<;>simp [h.e0,h.e3,h.e4,h.m4]
end
theorem b2p (x:LPeer):a3m x=!(!N5 x.target || c0a x):=by
 unfold a3m c0a c30 b34
 cases N5 x.target<;>cases decide (0≤x.fails∧x.fails≤1000000)<;>cases decide (0≤x.retry∧x.retry≤1000032)<;>by_cases h:x.retry=0<;>simp [h]
theorem a8z {l:List LPeer} {j:Nat} (h:j < l.length):((l.map A7).getD j .nilptr)=A7 l[j]:=by
 rw [a3p _ _ _ (by simpa using h)];simp
theorem b7g {K:Kx (PExit→St→Prop)} {st:St} {l:List LPeer} {i:Nat} {x:LPeer} (hi:i < l.length) (hl:l.length < 1099511627776) (h:PO st l i x) (h5:st.env 5=.val (num 0))
 (hK:∀ st',PO st' l i x→x.target.url∉(l.take i).map (fun p=>p.target.url)→K.k .normal st') (hR:∀ st',st'.env 2=.val (.bool false)→x.target.url∈(l.take i).map (fun p=>p.target.url)→K.k .ret st') :
 EC Tryz.prog ir113_s45 st (K:=K):=by
 unfold ir113_s45
 simp only [y5,G3,y7,G1,y8,t6,y6,G2,m8,B2,H6,H7,k6,p9,q7,l4,y9,s8,l6,G0,y4,q9,q8,E1,E3,a04,a05,Option.getD_some,Option.getD_none,C7,u2,o9,D7,o8,o2,D9,o3,D8,D6,D5,I1,w9,o6,D3,w7,o5,D2,C5,D4,w8,D0,o1,w6,D1,I3,I2,C6,C8,o4,C9,x1,o7,B5,n5,C4,C3,C2,H8,v8,n7,C0,v6,n6,B9,B3,C1,v7,B7,n0,u9,B8,I0,H9,B4,u7,n9,B6,w5,n8,K2,J9,L5,K3,K7,K5,K4,L4,K6,K8,K9,L2,L3,z7,z6,z1,M8,M9,A8,G4,u3,E7,x3,L7,t7,R5,N2,M0,O4,O6,O5,R6,R7,J2,J4,J3,J5,J6,O1,x6,O0,E8,E9,F0,x7,a09,F7,y0,R3,R4,I4,N0,N1,Option.map_some,Option.map_none,F1,x8,x2,p5,E5,E6,I6,I5,P1,P0,J8,F8,F9,J7,O7,O8,I7,p7,I8,p6,N6,F6,F5,l5,O3,O9,J1,N7,N9,N8,x5,A9,B1,B0,l0,O2,S0,R9,N3,I9,V3,N4,p8,F3,F4,x9,F2,l3,u5,l2,u6,l1,L6,P2,P3,z8,A0,G6,G5,E4]
 refine j7 (X:=Nat) (fun j=>⟨l8 [(0,.val (M5 l)),(3,.val (num i)),(4,.ptr 4 0),(5,.val (num j))],l9 [(4,.box (R8 x))]⟩) (fun j=>j≤i∧∀ k (hk:k < j) (hk':k < l.length),l[k].target.url≠x.target.url) (fun j=>i - j) 0 (Le.mk _ _ ?_ ?_) ?_ ?_
 · simp [h.e0,h.e3,h.e4,h5]
 · simp [h.m4]
 · simp
 · rintro j ⟨hj,hne⟩
   unfold ir113_l45
   simp [num,M5,R8]
   refine f6 (fun h1=>?_) (fun h1=>?_)
   · have hjl:j < l.length:=by omega
     have e:=a8z hjl
     rw [List.getD_eq_getElem?_getD] at e
     simp [num,M5,R8,e,h1,hjl,A7,tx,G9]
     by_cases hu:l[j].target.url=x.target.url
     · refine f6 (fun _=>?_) (fun h=>absurd hu h)
       simp
       refine hR _ (by simp) ?_
       rw [List.mem_map]
       exact ⟨l[j],by rw [List.mem_take_iff_getElem];exact ⟨j,by omega,rfl⟩,hu⟩
     · refine f6 (fun h=>absurd h hu) (fun _=>?_)
       simp
       refine LoopNext.mk (j+1) ⟨by omega,fun k hk hk'=>?_⟩ (by omega) (Le.mk _ _ ?_ ?_)
       · by_cases e:k=j
         · subst e;exact hu
         · exact hne k (by omega) hk'
       · simp [num,M5];rw [wrap_i64 (by omega) (by omega)]
       · simp [R8,num,tx]
   · have e:j=i:=by omega
     simp
     refine hK _ ⟨?_,?_,?_,?_⟩ ?_
     · simp [M5]
     · simp [num]
     · simp
     · simp [R8,num]
     · intro hm
       rw [List.mem_map] at hm
       obtain ⟨p,hp,hpu⟩:=hm
       rw [List.mem_take_iff_getElem] at hp
       obtain ⟨k,hk,rfl⟩:=hp
       exact hne k (by omega) (by omega) hpu
theorem c_l07OK (l:List LPeer) (hl:l.length < 1099511627776) (hs:∀ p∈l,p.target.url.length < 1099511627776):d8 Tryz.prog 113 [.val (M5 l)] (.ret (.val (.bool (X8 l))) []) []:=by
 refine f5 mixed ok113 rfl (fun _=>rfl) ?_
 unfold ir113
 rw [b7]
 by_cases h4:4 < l.length
 · have h4':(4:Int) < l.length:=by omega
   have e:X8 l=false:=by
    unfold X8
    rw [decide_eq_false (by omega)];rfl
   simp [d9,i6,j6,b8,d7,M5,h4',e]
 · have h4':¬ (4:Int) < l.length:=by omega
   have e:X8 l=(l.all a3m && S5 [] l):=by
    unfold X8
    rw [decide_eq_true (by omega)];rfl
   rw [e]
   simp [d9,i6,j6,b8,d7,M5,h4']
   refine j7 (X:=Nat) (fun i=>⟨l8 [(0,.val (M5 l)),(3,.val (num i))],l9 []⟩) (fun i=>i≤l.length∧(l.take i).all a3m=true∧S5 [] (l.take i)=true) (fun i=>l.length - i) 0 (Le.mk _ _ ?_ ?_) ?_ ?_
   · simp [upd,M5,num]
   · simp
   · simp [S5]
   · rintro i ⟨hi,ha,hu⟩
     unfold ir113_l9
     simp [num,M5]
     refine f6 (fun h1=>?_) (fun h1=>?_)
     · have e1:=a8z h1
       rw [List.getD_eq_getElem?_getD] at e1
       simp [num,M5,h1,e1,A7,tx]
       unfold ir113_s19
       simp [num,M5,f9,tx]
       refine b6 rfl rfl (.inl rfl) (b05 l[i].target (hs _ (List.getElem_mem h1))) ?_
       simp
       refine pops24 (l:=l) (i:=i) (x:=l[i]) (b:=!N5 l[i].target) ⟨?_,?_,?_,?_⟩ ?_ (fun st' q1 q2=>?_)
       · simp [M5]
       · simp [num]
       · simp
       · simp [R8,num,tx]
       · simp
       · have hpk:=b2p l[i]
         simp only [y5,G3,y7,G1,y8,t6,y6,G2,m8,B2,H6,H7,k6,p9,q7,l4,y9,s8,l6,G0,y4,q9,q8,E1,E3,a04,a05,Option.getD_some,Option.getD_none,C7,u2,o9,D7,o8,o2,D9,o3,D8,D6,D5,I1,w9,o6,D3,w7,o5,D2,C5,D4,w8,D0,o1,w6,D1,I3,I2,C6,C8,o4,C9,x1,o7,B5,n5,C4,C3,C2,H8,v8,n7,C0,v6,n6,B9,B3,C1,v7,B7,n0,u9,B8,I0,H9,B4,u7,n9,B6,w5,n8,K2,J9,L5,K3,K7,K5,K4,L4,K6,K8,K9,L2,L3,z7,z6,z1,M8,M9,A8,G4,u3,E7,x3,L7,t7,R5,N2,M0,O4,O6,O5,R6,R7,J2,J4,J3,J5,J6,O1,x6,O0,E8,E9,F0,x7,a09,F7,y0,R3,R4,I4,N0,N1,Option.map_some,Option.map_none,F1,x8,x2,p5,E5,E6,I6,I5,P1,P0,J8,F8,F9,J7,O7,O8,I7,p7,I8,p6,N6,F6,F5,l5,O3,O9,J1,N7,N9,N8,x5,A9,B1,B0,l0,O2,S0,R9,N3,I9,V3,N4,p8,F3,F4,x9,F2,l3,u5,l2,u6,l1,L6,P2,P3,z8,A0,G6,G5,E4,q2]
         cases hb:(!N5 l[i].target || c0a l[i]) with
         | true=>
          rw [hb] at hpk
          have:l.all a3m=false:=by rw [List.all_eq_false];exact ⟨l[i],List.getElem_mem h1,by rw [hpk];simp⟩
          rw [this]
          simp
         | false=>
          rw [hb] at hpk
          refine f6 (fun h=>by cases h) (fun _=>?_)
          simp only [y5,G3,y7,G1,y8,t6,y6,G2,m8,B2,H6,H7,k6,p9,q7,l4,y9,s8,l6,G0,y4,q9,q8,E1,E3,a04,a05,Option.getD_some,Option.getD_none,C7,u2,o9,D7,o8,o2,D9,o3,D8,D6,D5,I1,w9,o6,D3,w7,o5,D2,C5,D4,w8,D0,o1,w6,D1,I3,I2,C6,C8,o4,C9,x1,o7,B5,n5,C4,C3,C2,H8,v8,n7,C0,v6,n6,B9,B3,C1,v7,B7,n0,u9,B8,I0,H9,B4,u7,n9,B6,w5,n8,K2,J9,L5,K3,K7,K5,K4,L4,K6,K8,K9,L2,L3,z7,z6,z1,M8,M9,A8,G4,u3,E7,x3,L7,t7,R5,N2,M0,O4,O6,O5,R6,R7,J2,J4,J3,J5,J6,O1,x6,O0,E8,E9,F0,x7,a09,F7,y0,R3,R4,I4,N0,N1,Option.map_some,Option.map_none,F1,x8,x2,p5,E5,E6,I6,I5,P1,P0,J8,F8,F9,J7,O7,O8,I7,p7,I8,p6,N6,F6,F5,l5,O3,O9,J1,N7,N9,N8,x5,A9,B1,B0,l0,O2,S0,R9,N3,I9,V3,N4,p8,F3,F4,x9,F2,l3,u5,l2,u6,l1,L6,P2,P3,z8,A0,G6,G5,E4]
          refine b7g (x:=l[i]) h1 hl ⟨?_,?_,?_,?_⟩ ?_ (fun st'' r1 r2=>?_) (fun st'' r1 r2=>?_)
          · simp [q1.e0]
          · simp [q1.e3]
          · simp [q1.e4]
          · simp [q1.m4]
          · simp [num]
          · simp [r1.e3,num]
            refine LoopNext.mk (i+1) ⟨by omega,?_,?_⟩ (by omega) (Le.mk _ _ ?_ ?_)
            · rw [Q4 _ _ _ h1,ha,hpk];rfl
            · rw [a5b l i h1,hu,decide_eq_true r2];rfl
            · simp [r1.e0,num,M5];rw [wrap_i64 (by omega) (by omega)]
            · simp
          · have:S5 [] l=false:=a2h l (i+1) (by rw [a5b l i h1,hu,decide_eq_false (fun h=>h r2)];rfl)
            rw [this]
            simp [r1]
     · have e1:i=l.length:=by omega
       subst e1
       rw [List.take_length] at ha hu
       rw [ha,hu]
       simp
end Go.Proofs
end
section
namespace Go.Proofs
open Go.PW Go.KP
variable [GF]
theorem b06 (c:UInt8):d8 Tryz.prog 153 [.val (rvb c)] (.ret (.val (.bool (a0u c))) []) []:=by
 refine f5 mixed ok153 rfl (fun _=>rfl) ?_
 unfold ir153
 rw [b7]
 have e1:((97:Int)≤c.toNat)↔97≤c.toNat:=by omega
 have e2:((c.toNat:Int)≤122)↔c.toNat≤122:=by omega
 have e3:((65:Int)≤c.toNat)↔65≤c.toNat:=by omega
 have e4:((c.toNat:Int)≤90)↔c.toNat≤90:=by omega
 have e5:((c.toNat:Int)=95)↔c.toNat=95:=by omega
 by_cases h1:97≤c.toNat<;>by_cases h2:c.toNat≤122<;>by_cases h3:65≤c.toNat<;>by_cases h4:c.toNat≤90<;>by_cases h5:c.toNat=95<;>first | (exfalso;omega) | simp [d9,i6,j6,b8,d7,rvb,a0u,M7,isUp,e1,e2,e3,e4,e5,h1,h2,h3,h4,h5]
theorem a4e {c:UInt8} (h:a0u c=true):a2i c=true:=by simp [a2i,h]
theorem b0b (t:Tx) (ht:t.length < 1099511627776):d8 Tryz.prog 115 [.val (tx t)] (.ret (.val (.bool (a0m t))) []) []:=by
 refine f5 mixed ok115 rfl (fun _=>rfl) ?_
 unfold ir115
 rw [b7]
 by_cases h1:t.length < 1
 · have:a0m t=false:=by unfold a0m;rw [decide_eq_false (by omega)];rfl
   have h1':(t.length:Int) < 1:=by omega
   simp [d9,i6,j6,b8,d7,tx,b9,h1',this]
 by_cases h2:12 < t.length
 · have h1':¬ (t.length:Int) < 1:=by omega
   have h2':(12:Int) < t.length:=by omega
   have:a0m t=false:=by unfold a0m;rw [decide_eq_false (by omega)];rfl
   simp [d9,i6,j6,b8,d7,tx,b9,h1',h2',this]
 have h1':¬ (t.length:Int) < 1:=by omega
 have h2':¬ (12:Int) < t.length:=by omega
 have h0:0 < t.length:=by omega
 have hw:a0m t=V9 a0u a2i t:=by unfold a0m;rw [decide_eq_true (by omega)];rfl
 simp [d9,i6,j6,b8,d7,tx,b9,h1',h2',j4,h0]
 refine b6 rfl rfl (.inl rfl) (b06 t[0]) ?_
 cases hl:a0u t[0] with
 | false=>
  have:a0m t=false:=by rw [hw];exact a1m t 0 h0 (by rw [if_pos rfl];exact hl)
  simp [this]
 | true=>
  have hst:=a2d (p:=a0u) (q:=a2i) (fun _ h=>a4e h) t 0 h0
  simp
  refine j7 (X:=Nat) (fun i=>⟨l8 [(0,.val (.str (bs t))),(3,.val (.int .i64 i))],l9 []⟩) (fun i=>1≤i∧i≤t.length∧V9 a0u a2i (t.take i)=true) (fun i=>t.length - i) 1 (Le.mk _ _ ?_ ?_) ?_ ?_
  · simp [upd]
  · simp
  · refine ⟨Nat.le_refl _,h0,?_⟩
    rw [hst,if_pos rfl,hl];simp [V9]
  · rintro i ⟨hi1,hi,hall⟩
    have hi0:i≠0:=by omega
    simp [b9,j4]
    refine f6 (fun h3=>?_) (fun h3=>?_)
    · have hstep:=a2d (p:=a0u) (q:=a2i) (fun _ h=>a4e h) t i h3
      rw [hall,Bool.true_and,if_neg hi0] at hstep
      have A1:=a1m (p:=a0u) (q:=a2i) t i h3
      rw [if_neg hi0] at A1
      simp [b9,j4,h3]
      refine b6 rfl rfl (.inl rfl) (b06 t[i]) ?_
      cases hlt:a0u t[i] with
      | true=>
       simp
       refine LoopNext.mk (i+1) ⟨by omega,by omega,by rw [hstep];exact a4e hlt⟩ (by omega) (Le.mk _ _ ?_ ?_)
       · simp;exact wrap_i64 (by omega) (by omega)
       · simp
      | false=>
       simp [b9,j4,h3]
       refine b6 rfl rfl (.inl rfl) (a32 t[i]) ?_
       cases hd:M3 t[i] with
       | true=>
        simp
        refine LoopNext.mk (i+1) ⟨by omega,by omega,by rw [hstep];simp [a2i,hd]⟩ (by omega) (Le.mk _ _ ?_ ?_)
        · simp;exact wrap_i64 (by omega) (by omega)
        · simp
       | false=>
        have:a0m t=false:=by rw [hw];exact A1 (by simp [a2i,hd,hlt])
        simp [this]
    · have e:i=t.length:=by omega
      subst e
      rw [List.take_length] at hall
      simp [hw,hall]
end Go.Proofs
end
