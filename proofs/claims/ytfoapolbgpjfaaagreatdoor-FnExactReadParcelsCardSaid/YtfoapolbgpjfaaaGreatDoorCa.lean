/- Ca: merged out of KSa, KSb, KSc, KSd, KSr. -/
import Derived.Test.YtfoapolbgpjfaaaGreatDoorBa
import Derived.Test.YtfoapolbgpjfaaaGreatDoorAc
set_option linter.unusedSectionVars false
set_option linter.unusedSimpArgs false
set_option linter.unusedVariables false
set_option maxRecDepth 100000
section
namespace Go.Proofs
open Go.PW Go.KP
attribute [local simp] RV.cells RV.one PV.cells PV.solid PV.one L2 a6 M6 M8 RV.ofCells elems PV.killL
theorem mixed:Tryz.prog.follows .mixedOrders=true:=by kernel_rfl
variable [GF]
theorem a5u (k:IntKind) (a lo hi:Int):v7 Tryz.prog 129 [.val (.int k a),.val (.int k lo),.val (.int k hi)] (.ret (.val (.bool (decide (lo≤a∧a≤hi)))) []) []:=by
 refine I1 mixed ok129 rfl (fun _=>rfl) ?_
 unfold ir129
 rw [b7]
 by_cases h:lo≤a
 · simp [f5,D5,L6,a7,c8,h]
 · simp [f5,D5,L6,a7,c8,h]
theorem b7y (t:Tx) (c:UInt8) (ht:t.length < 1099511627776):v7 Tryz.prog 198 [.val (tx t),.val (rvb c)] (.ret (.val (num (X2 t c))) []) []:=by
 refine I1 mixed ok198 rfl (fun _=>rfl) ?_
 unfold ir198
 rw [b7]
 simp only [t7,D1,u0,C9,u1,l8,t8,D0,f6,w7,D9,E1,b9,l3,l4,d7,u2,l7,d9,C8,t6,l6,l5,B0,B1,Q9,R0,Option.getD_some,Option.getD_none,z6,n0,k7,A7,k6,j4,A9,j5,A8,A6,A5,E5,r7,j8,A3,r5,j7,A2,y9,A4,r6,A0,j3,r4,A1,E7,E6,z1,z7,j6,z8,r8,j9,x1,f8,y8,y7,y6,E2,p9,i6,x8,p7,f9,x7,w8,x9,p8,x5,f7,p6,x6,E4,E3,w9,o9,i8,x4,q7,i7,G5,G4,H6,G6,H0,G8,G7,H5,G9,H1,H2,H3,H4,u5,u4,u3,I3,I4,I2,D2,n7,B5,s0,H8,l9,L9,I7,I0,J8,K2,J9,M1,M2,F5,F7,F6,F8,F9,J5,s5,J4,B6,B7,B8,s6,R1,C5,s9,L7,L8,E8,I5,I6,Option.map_some,Option.map_none,B9,s7,r9,k8,B3,B4,F0,E9,K7,K6,G3,C6,C7,G0,K3,K4,F1,l1,F2,k9,J0,C4,C3,d8,J7,K5,F4,J1,J3,J2,s4,v8,w6,w5,d3,J6,M4,M3,I8,F3,N9,I9,l2,C1,C2,s8,C0,d6,n9,d5,o0,d4,H7,K8,K9,u6,u7,D4,D3,B2,f5,D5,L6,a7,c8,tx,rvb,num]
 refine O8 (X:=Nat) (fun i=>⟨P4 [(0,.val (.str (bs t))),(1,.val (.int .u8 c.toNat)),(5,.val (.int .i64 i))],O7 []⟩) (fun i=>i≤t.length∧∀ k,k < i→t.getD k 0≠c) (fun i=>t.length - i) 0 (Le.mk _ _ ?_ ?_) ?_ ?_
 · simp [upd]
 · simp
 · simp
 · rintro i ⟨hi,hne⟩
   simp [a8,L5,b75]
   refine O6 (fun h1=>?_) (fun h1=>?_)
   · simp [a8,L5,b75,h1]
     refine O6 (fun h2=>?_) (fun h2=>?_)
     · simp
       rw [b2y t c i hi hne (.inr (by rw [a1u _ _ _ h1];exact h2))];rfl
     · simp
       refine LoopNext.mk (i+1) ⟨by omega,fun k hk=>?_⟩ (by omega) (Le.mk _ _ ?_ ?_)
       · by_cases e:k=i
         · subst e;simpa [List.getElem?_eq_getElem h1] using h2
         · simpa using hne k (by omega)
       · simp [I2,n7];rw [wrap_i64 (by omega) (by omega)]
       · simp
   · have e:i=t.length:=by omega
     simp [a8]
     rw [b2y t c i hi hne (.inl e),e];rfl
theorem a9c (c:UInt8):v7 Tryz.prog 215 [.val (rvb c)] (.ret (.val (.bool (P7 c))) []) []:=by
 refine I1 mixed ok215 rfl (fun _=>rfl) ?_
 unfold ir215
 rw [b7]
 have e1:((48:Int)≤c.toNat)↔48≤c.toNat:=by omega
 have e2:((c.toNat:Int)≤57)↔c.toNat≤57:=by omega
 by_cases h:48≤c.toNat
 · simp [f5,D5,L6,a7,c8,rvb,P7,h,e1,e2]
 · simp [f5,D5,L6,a7,c8,rvb,P7,h,e1,e2]
end Go.Proofs
end
section
namespace Go.Proofs
open Go.PW Go.KP
attribute [local simp] RV.cells RV.one PV.cells PV.solid PV.one L2 a6 M6 M8 RV.ofCells elems PV.killL
variable [GF]
theorem b95 (m:Nat):S6 [RV.int .u8 (48+(m:Int))]=bs [UInt8.ofNat (48+m)]:=by
 have:(48+(m:Int)).toNat=48+m:=by omega
 simp only [S6,bs,List.map,RV.byte,this]
theorem a22 (n:Nat):n≤9223372036854775807→v7 Tryz.prog 223 [.val (num n)] (.ret (.val (tx (X9 n))) []) []:=by
 induction n using Nat.strongRecOn with
 | ind n ih=>
  intro hn
  refine I1 mixed ok223 rfl (fun _=>rfl) ?_
  unfold ir223
  rw [b7]
  have g1:¬ ((n:Int)=-9223372036854775808):=by omega
  have g2:¬ ((n:Int) < 0):=by omega
  by_cases h:n < 10
  · have g3:(n:Int) < 10:=by omega
    have g4:IntKind.i64.wrap (48+(n:Int))=48+(n:Int):=wrap_i64 (by omega) (by omega)
    have g5:IntKind.u8.wrap (48+(n:Int))=48+(n:Int):=X5 (by omega) (by omega)
    simp [f5,D5,L6,a7,c8,num,g1,g2,g3,g4,g5,RV.isU8]
    rw [W8 h]
    rw [b95];rfl
  · have g3:¬ ((n:Int) < 10):=by omega
    have g6:(n:Int).tdiv 10=((n / 10:Nat):Int):=by rw [Int.tdiv_eq_ediv_of_nonneg (by omega)];omega
    have g7:(n:Int).tmod 10=((n % 10:Nat):Int):=by rw [Int.tmod_eq_emod_of_nonneg (by omega)];omega
    have hih:=ih (n / 10) (by omega) (by omega)
    rw [a03 h]
    have hl:=b2z (n / 10)
    have ha:n / 10≤922337203685477580:=by omega
    generalize n / 10=a at *
    have hb:n % 10 < 10:=Nat.mod_lt _ (by omega)
    generalize n % 10=b at *
    have g8:IntKind.i64.wrap (a:Int)=(a:Int):=wrap_i64 (by omega) (by omega)
    have g4:IntKind.i64.wrap (48+(b:Int))=48+(b:Int):=wrap_i64 (by omega) (by omega)
    have g5:IntKind.u8.wrap (48+(b:Int))=48+(b:Int):=X5 (by omega) (by omega)
    simp [f5,D5,L6,a7,c8,num,g1,g2,g3,g6,g7,g8,g4,g5,RV.isU8]
    refine S5 rfl rfl (.inl rfl) hih ?_
    simp [f5,D5,L6,a7,c8,num,g1,g2,g3,g6,g7,g8,g4,g5,RV.isU8,tx]
    rw [b95]
    simp [a8,P9]
    omega
def a28:Option Int→PV
 | some n=>.tup [.val (num n),.val (.bool true)]
 | none=>.tup [.val (num 0),.val (.bool false)]
theorem b1d (u:Tx) (neg:Bool) (st:St) (h0:st.env 0=.val (tx u)) (h4:st.env 4=.val (num (if neg then -1 else 1))) (h5:st.env 5=.val (num 0)) (hu:u.length≤18) :
 EC Tryz.prog ir240_from5 st (K:=⟨a47 [.t 2,.t 3] (a28 (if u.all P7 then some (if neg then - (S1 u:Int) else (S1 u:Int)) else none))⟩):=by
 unfold ir240_from5
 simp only [t7,D1,u0,C9,u1,l8,t8,D0,f6,w7,D9,E1,b9,l3,l4,d7,u2,l7,d9,C8,t6,l6,l5,B0,B1,Q9,R0,Option.getD_some,Option.getD_none,z6,n0,k7,A7,k6,j4,A9,j5,A8,A6,A5,E5,r7,j8,A3,r5,j7,A2,y9,A4,r6,A0,j3,r4,A1,E7,E6,z1,z7,j6,z8,r8,j9,x1,f8,y8,y7,y6,E2,p9,i6,x8,p7,f9,x7,w8,x9,p8,x5,f7,p6,x6,E4,E3,w9,o9,i8,x4,q7,i7,G5,G4,H6,G6,H0,G8,G7,H5,G9,H1,H2,H3,H4,u5,u4,u3,I3,I4,I2,D2,n7,B5,s0,H8,l9,L9,I7,I0,J8,K2,J9,M1,M2,F5,F7,F6,F8,F9,J5,s5,J4,B6,B7,B8,s6,R1,C5,s9,L7,L8,E8,I5,I6,Option.map_some,Option.map_none,B9,s7,r9,k8,B3,B4,F0,E9,K7,K6,G3,C6,C7,G0,K3,K4,F1,l1,F2,k9,J0,C4,C3,d8,J7,K5,F4,J1,J3,J2,s4,v8,w6,w5,d3,J6,M4,M3,I8,F3,N9,I9,l2,C1,C2,s8,C0,d6,n9,d5,o0,d4,H7,K8,K9,u6,u7,D4,D3,B2]
 refine O8 (X:=Nat) (fun i=>⟨P4 [(0,.val (tx u)),(4,.val (num (if neg then -1 else 1))),(5,.val (num (S1 (u.take i)))),(6,.val (num i))],O7 []⟩) (fun i=>i≤u.length∧(u.take i).all P7=true) (fun i=>u.length - i) 0 (Le.mk _ _ ?_ ?_) ?_ ?_
 · simp [upd,h0,h4,h5,num,S1]
 · simp
 · simp
 · rintro i ⟨hi,hall⟩
   have hlv:S1 (u.take i) < 1000000000000000000:=by
    have h1:=b1j _ hall
    have h2:(u.take i).length≤18:=by simp;omega
    exact Nat.lt_of_lt_of_le h1 (Nat.le_trans (Nat.pow_le_pow_right (by omega) h2) (by decide))
   simp [tx,num,a8,L5]
   refine O6 (fun h1=>?_) (fun h1=>?_)
   · have e1:((u[i].toNat:Int) < 48)↔u[i].toNat < 48:=by omega
     have e1':((48:Int)≤(u[i].toNat:Int))↔48≤u[i].toNat:=by omega
     have e2:((57:Int) < (u[i].toNat:Int))↔57 < u[i].toNat:=by omega
     by_cases h2:u[i].toNat < 48
     · have h2':¬ 48≤u[i].toNat:=by omega
       simp [tx,num,a8,L5,h1,e1,e1',e2,h2,h2']
       rw [if_neg (fun hA=>by have:=hA u[i] (List.getElem_mem h1);simp [P7] at this;omega)];rfl
     · have h2':48≤u[i].toNat:=by omega
       by_cases h3:57 < u[i].toNat
       · simp [tx,num,a8,L5,h1,e1,e1',e2,h2,h2',h3]
         rw [if_neg (fun hA=>by have:=hA u[i] (List.getElem_mem h1);simp [P7] at this;omega)];rfl
       · simp [tx,num,a8,L5,h1,e1,e1',e2,h2,h2',h3]
         have hlv2:S1 (u.take i) < 100000000000000000:=by
          have h1':=b1j _ hall
          have h2':(u.take i).length≤17:=by simp;omega
          exact Nat.lt_of_lt_of_le h1' (Nat.le_trans (Nat.pow_le_pow_right (by omega) h2') (by decide))
         have hw:IntKind.i64.wrap (IntKind.i64.wrap (IntKind.i64.wrap ((S1 (u.take i):Int)*10)+IntKind.i64.wrap (u[i].toNat:Int)) - 48)=((S1 (u.take (i+1)):Nat):Int):=by
          rw [b6t u i 0 h1,a3z,a1u _ _ _ h1]
          rw [wrap_i64 (x:=(S1 (u.take i):Int)*10) (by omega) (by omega),wrap_i64 (x:=(u[i].toNat:Int)) (by omega) (by omega),wrap_i64 (x:=(S1 (u.take i):Int)*10+(u[i].toNat:Int)) (by omega) (by omega),wrap_i64 (by omega) (by omega)]
          omega
         refine LoopNext.mk (i+1) ⟨by omega,?_⟩ (by omega) (Le.mk _ _ ?_ ?_)
         · rw [a95 _ _ _ h1,hall];simp [P7];omega
         · simp [hw,tx,num];exact wrap_i64 (by omega) (by omega)
         · simp
   · have e:i=u.length:=by omega
     subst e
     rw [List.take_length] at hall hlv
     simp [tx,num,a8]
     have hA:∀ x,x∈u→P7 x=true:=by simpa using hall
     have w1:IntKind.i64.wrap (-(S1 u:Int))=-(S1 u:Int):=wrap_i64 (by omega) (by omega)
     have w2:IntKind.i64.wrap (S1 u:Int)=(S1 u:Int):=wrap_i64 (by omega) (by omega)
     cases neg with
     | true=>simp [a28,num,eq_true hA,w1]
     | false=>simp [a28,num,eq_true hA,w2]
theorem a2o (u:Tx) (neg:Bool) (st:St) (h0:st.env 0=.val (tx u)) (h4:st.env 4=.val (num (if neg then -1 else 1))) (hu:u.length < 1099511627776) :
 EC Tryz.prog ir240_from3 st (K:=⟨a47 [.t 2,.t 3] (a28 (X0 neg u))⟩):=by
 unfold ir240_from3
 by_cases a1:u.length=0
 · have:u=[]:=List.eq_nil_of_length_eq_zero a1
   subst this
   simp [h0,tx,a8]
   rw [show X0 neg []=none by simp [X0,a0c]];rfl
 · have a1':¬ ((u.length:Int)=0):=by omega
   by_cases a2:18 < u.length
   · have a2':(18:Int) < u.length:=by omega
     have a2'':¬ (u.length:Int)≤18:=by omega
     simp [h0,tx,a8,a1,a1',a2',a2'']
     rw [show X0 neg u=none by simp [X0,a0c,a2]];rfl
   · have hpos:0 < u.length:=by omega
     have a2':¬ (18:Int) < u.length:=by omega
     have a2'':(u.length:Int)≤18:=by omega
     have e0:u[0]?.getD 0=u.getD 0 0:=by simp
     have e1:((u[0].toNat:Int)=48)↔u[0].toNat=48:=by omega
     have e2:((1:Int) < (u.length:Int))↔1 < u.length:=by omega
     have hg:u[0]?.getD 0=u[0]:=by simp [List.getElem?_eq_getElem hpos]
     have hgo:a0c neg u=false→∀ st':St,st'.env 0=.val (tx u)→st'.env 4=.val (num (if neg then -1 else 1))→st'.env 5=.val (num 0)→EC Tryz.prog ir240_from5 st' (K:=⟨a47 [.t 2,.t 3] (a28 (X0 neg u))⟩):=fun hb st' q1 q2 q3=>by
      rw [show X0 neg u=(if u.all P7 then some (if neg then - (S1 u:Int) else (S1 u:Int)) else none) by unfold X0;rw [hb];rfl]
      exact b1d u neg st' q1 q2 q3 (by omega)
     by_cases a3:u[0].toNat=48
     · by_cases a4:1 < u.length
       · simp [h0,tx,a8,a1,a1',a2',a2'',L5,hpos,e1,e2,a3,a4]
         rw [show X0 neg u=none by simp [X0,a0c,hg,a3,a4]];rfl
       · cases neg with
         | true=>
          simp [h0,h4,num,tx,a8,a1,a1',a2',a2'',L5,hpos,e1,e2,a3,a4]
          rw [show X0 true u=none by simp [X0,a0c,hg,a3]];rfl
         | false=>
          simp [h0,h4,num,tx,a8,a1,a1',a2',a2'',L5,hpos,e1,e2,a3,a4]
          refine hgo ?_ _ ?_ ?_ ?_
          · simp [a0c,hg,a3,a4,a1,a2]
          · simp [h0,tx]
          · simp [h4,num]
          · simp [num]
     · simp [h0,tx,a8,a1,a1',a2',a2'',L5,hpos,e1,e2,a3]
       refine hgo ?_ _ ?_ ?_ ?_
       · simp [a0c,hg,a3,a1,a2]
       · simp [h0,tx]
       · simp [h4,num]
       · simp [num]
theorem b3t (t:Tx) (ht:t.length < 1099511627776):v7 Tryz.prog 240 [.val (tx t)] (.ret (a28 (R4 t)) []) []:=by
 refine I1 mixed ok240 rfl (fun ι=>by cases R4 t<;>rfl) ?_
 unfold ir240
 rw [b7]
 cases t with
 | nil=>
  simp [f5,D5,L6,a7,c8,tx,a8]
  rw [show R4 []=X0 false [] by simp [R4,X0,a0c]]
  refine a2o [] false _ ?_ ?_ (by simp)<;>simp [tx,num]
 | cons c r=>
  have hr:r.length < 1099511627776:=by simp at ht;omega
  have e0:(0:Int) < ((r.length:Int)+1):=by omega
  by_cases hc:c=45
  · have e1:((c.toNat:Int)=45):=by rw [hc];rfl
    simp [f5,D5,L6,a7,c8,tx,a8,L5,e0,e1,Q8]
    rw [show R4 (c :: r)=X0 true r by simp [R4,hc]]
    refine a2o r true _ ?_ ?_ hr<;>simp [tx,num]
  · have e1:¬ ((c.toNat:Int)=45):=fun h=>hc (UInt8.toNat_inj.1 (by simp;omega))
    simp [f5,D5,L6,a7,c8,tx,a8,L5,e0,e1]
    rw [show R4 (c :: r)=X0 false (c :: r) by simp [R4,hc]]
    refine a2o (c :: r) false _ ?_ ?_ ht<;>simp [tx,num]
end Go.Proofs
end
section
namespace Go.Proofs
open Go.PW Go.KP
attribute [local simp] RV.cells RV.one PV.cells PV.solid PV.one L2 a6 M6 M8 RV.ofCells elems PV.killL
variable [GF]
structure UO (st:St) (u:LUrl):Prop where
 e1:st.env 1=.ptr 1 0
 m1:st.mem 1=.box [.val (tx u.scheme),.val (tx u.user),.val (tx u.host),.val (num u.port),.val (tx u.path),.val (tx u.query),.val (tx u.frag),.val (.bool u.hasQ),.val (.bool u.hasF)]
section
variable {Ks:Kx (St→Prop)} {kx:Kx (RV→St→Prop)} {st:St} {u:LUrl} {b:Bool}
end
end Go.Proofs
end
section
namespace Go.Proofs
open Go.PW Go.KP
attribute [local simp] RV.cells RV.one PV.cells PV.solid PV.one L2 a6 M6 M8 RV.ofCells elems PV.killL
variable [GF]
abbrev prs (r:LUrl×Bool):Kx (PExit→St→Prop):=⟨a47 [.c 2 true 9,.t 3] (b8s r)⟩
structure UP (st:St) (u:LUrl) (r:Tx):Prop where
 e2:st.env 2=.ptr 2 0
 e5:st.env 5=.ptr 5 0
 e6:st.env 6=.val (tx r)
 m2:st.mem 2=.box (a7m LUrl.zero)
 m5:st.mem 5=.box (a7m u)
end Go.Proofs
end
section
namespace Go.Proofs
open Go.PW Go.KP
variable [GF]
end Go.Proofs
end
