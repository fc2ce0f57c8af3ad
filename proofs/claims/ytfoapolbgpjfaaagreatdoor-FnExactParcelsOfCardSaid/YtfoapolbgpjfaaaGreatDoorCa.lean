/- Ca: merged out of KSa, KSb, KSc, KSd, KSr. -/
import Derived.Test.YtfoapolbgpjfaaaGreatDoorBa
import Derived.Test.YtfoapolbgpjfaaaGreatDoorAc
set_option linter.unusedSectionVars false
set_option linter.unusedSimpArgs false
set_option linter.unusedVariables false
set_option maxRecDepth 100000
section
namespace Go.Proofs
open Go.PW Go.KP
attribute [local simp] RV.cells RV.one PV.cells PV.solid PV.one J2 a6 N0 N1 RV.ofCells elems PV.killL
theorem mixed:Tryz.prog.follows .mixedOrders=true:=by kernel_rfl
variable [GF]
theorem a6w (k:IntKind) (a lo hi:Int):n7 Tryz.prog 129 [.val (.int k a),.val (.int k lo),.val (.int k hi)] (.ret (.val (.bool (decide (lo≤a∧a≤hi)))) []) []:=by
 refine J0 mixed ok129 rfl (fun _=>rfl) ?_
 unfold ir129
 rw [b7]
 by_cases h:lo≤a
 · simp [d3,x8,M5,a7,c8,h]
 · simp [d3,x8,M5,a7,c8,h]
theorem c0n (t:Tx) (c:UInt8) (ht:t.length < 1099511627776):n7 Tryz.prog 198 [.val (tx t),.val (rvb c)] (.ret (.val (num (Y5 t c))) []) []:=by
 refine J0 mixed ok198 rfl (fun _=>rfl) ?_
 unfold ir198
 rw [b7]
 simp only [v6,E3,v8,E1,w5,l8,v7,E2,f6,y7,F0,F1,b8,l3,l4,d8,w6,l7,f5,D9,u9,l6,l5,C1,C2,S0,S1,Option.getD_some,Option.getD_none,A8,n8,k7,B8,k6,j4,C0,j5,B9,B7,B6,F5,t7,j8,B4,s9,j7,B3,A6,B5,t6,B1,j3,s8,B2,F7,F6,A7,A9,j6,B0,t8,j9,z1,f8,A5,A4,A3,F2,q7,i6,A1,p8,f9,A0,y8,A2,p9,z7,f7,p7,z8,F4,F3,y9,p6,i8,z6,s7,i7,H5,H4,I6,H6,I0,H8,H7,I5,H9,I1,I2,I3,I4,x1,w9,w8,J5,J6,J4,E4,n9,C6,u1,I8,l9,N4,J9,J3,L4,L6,L5,N5,N6,G7,G9,G8,H0,H1,K9,u3,K8,C7,C8,C9,u4,S3,D6,u7,N2,N3,F8,J7,J8,Option.map_some,Option.map_none,D0,u5,u0,k8,C4,C5,G0,F9,M2,M1,H3,D7,D8,H2,L7,L8,G3,l1,G4,k9,K4,D5,D4,d9,L3,L9,G6,K5,K7,K6,u2,x9,y6,y0,d4,L2,N8,N7,K2,G5,O9,K3,l2,D2,D3,u6,D1,d7,o0,d6,o9,d5,I7,M3,M4,x4,x5,E6,E5,C3,d3,x8,M5,a7,c8,tx,rvb,num]
 refine O6 (X:=Nat) (fun i=>⟨P6 [(0,.val (.str (bs t))),(1,.val (.int .u8 c.toNat)),(5,.val (.int .i64 i))],P3 []⟩) (fun i=>i≤t.length∧∀ k,k < i→t.getD k 0≠c) (fun i=>t.length - i) 0 (Le.mk _ _ ?_ ?_) ?_ ?_
 · simp [upd]
 · simp
 · simp
 · rintro i ⟨hi,hne⟩
   simp [a8,M8,c0z]
   refine O7 (fun h1=>?_) (fun h1=>?_)
   · simp [a8,M8,c0z,h1]
     refine O7 (fun h2=>?_) (fun h2=>?_)
     · simp
       rw [b4u t c i hi hne (.inr (by rw [a2c _ _ _ h1];exact h2))];rfl
     · simp
       refine LoopNext.mk (i+1) ⟨by omega,fun k hk=>?_⟩ (by omega) (Le.mk _ _ ?_ ?_)
       · by_cases e:k=i
         · subst e;simpa [List.getElem?_eq_getElem h1] using h2
         · simpa using hne k (by omega)
       · simp [J4,n9];rw [wrap_i64 (by omega) (by omega)]
       · simp
   · have e:i=t.length:=by omega
     simp [a8]
     rw [b4u t c i hi hne (.inl e),e];rfl
theorem b0l (c:UInt8):n7 Tryz.prog 215 [.val (rvb c)] (.ret (.val (.bool (Q8 c))) []) []:=by
 refine J0 mixed ok215 rfl (fun _=>rfl) ?_
 unfold ir215
 rw [b7]
 have e1:((48:Int)≤c.toNat)↔48≤c.toNat:=by omega
 have e2:((c.toNat:Int)≤57)↔c.toNat≤57:=by omega
 by_cases h:48≤c.toNat
 · simp [d3,x8,M5,a7,c8,rvb,Q8,h,e1,e2]
 · simp [d3,x8,M5,a7,c8,rvb,Q8,h,e1,e2]
end Go.Proofs
end
section
namespace Go.Proofs
open Go.PW Go.KP
attribute [local simp] RV.cells RV.one PV.cells PV.solid PV.one J2 a6 N0 N1 RV.ofCells elems PV.killL
variable [GF]
theorem c29 (m:Nat):U1 [RV.int .u8 (48+(m:Int))]=bs [UInt8.ofNat (48+m)]:=by
 have:(48+(m:Int)).toNat=48+m:=by omega
 simp only [U1,bs,List.map,RV.byte,this]
theorem a3n (n:Nat):n≤9223372036854775807→n7 Tryz.prog 223 [.val (num n)] (.ret (.val (tx (Z3 n))) []) []:=by
 induction n using Nat.strongRecOn with
 | ind n ih=>
  intro hn
  refine J0 mixed ok223 rfl (fun _=>rfl) ?_
  unfold ir223
  rw [b7]
  have g1:¬ ((n:Int)=-9223372036854775808):=by omega
  have g2:¬ ((n:Int) < 0):=by omega
  by_cases h:n < 10
  · have g3:(n:Int) < 10:=by omega
    have g4:IntKind.i64.wrap (48+(n:Int))=48+(n:Int):=wrap_i64 (by omega) (by omega)
    have g5:IntKind.u8.wrap (48+(n:Int))=48+(n:Int):=Y8 (by omega) (by omega)
    simp [d3,x8,M5,a7,c8,num,g1,g2,g3,g4,g5,RV.isU8]
    rw [Y1 h]
    rw [c29];rfl
  · have g3:¬ ((n:Int) < 10):=by omega
    have g6:(n:Int).tdiv 10=((n / 10:Nat):Int):=by rw [Int.tdiv_eq_ediv_of_nonneg (by omega)];omega
    have g7:(n:Int).tmod 10=((n % 10:Nat):Int):=by rw [Int.tmod_eq_emod_of_nonneg (by omega)];omega
    have hih:=ih (n / 10) (by omega) (by omega)
    rw [a1l h]
    have hl:=b4v (n / 10)
    have ha:n / 10≤922337203685477580:=by omega
    generalize n / 10=a at *
    have hb:n % 10 < 10:=Nat.mod_lt _ (by omega)
    generalize n % 10=b at *
    have g8:IntKind.i64.wrap (a:Int)=(a:Int):=wrap_i64 (by omega) (by omega)
    have g4:IntKind.i64.wrap (48+(b:Int))=48+(b:Int):=wrap_i64 (by omega) (by omega)
    have g5:IntKind.u8.wrap (48+(b:Int))=48+(b:Int):=Y8 (by omega) (by omega)
    simp [d3,x8,M5,a7,c8,num,g1,g2,g3,g6,g7,g8,g4,g5,RV.isU8]
    refine S9 rfl rfl (.inl rfl) hih ?_
    simp [d3,x8,M5,a7,c8,num,g1,g2,g3,g6,g7,g8,g4,g5,RV.isU8,tx]
    rw [c29]
    simp [a8,R1]
    omega
def a3v:Option Int→PV
 | some n=>.tup [.val (num n),.val (.bool true)]
 | none=>.tup [.val (num 0),.val (.bool false)]
theorem b2v (u:Tx) (neg:Bool) (st:St) (h0:st.env 0=.val (tx u)) (h4:st.env 4=.val (num (if neg then -1 else 1))) (h5:st.env 5=.val (num 0)) (hu:u.length≤18) :
 EC Tryz.prog ir240_from5 st (K:=⟨a45 [.t 2,.t 3] (a3v (if u.all Q8 then some (if neg then - (T5 u:Int) else (T5 u:Int)) else none))⟩):=by
 unfold ir240_from5
 simp only [v6,E3,v8,E1,w5,l8,v7,E2,f6,y7,F0,F1,b8,l3,l4,d8,w6,l7,f5,D9,u9,l6,l5,C1,C2,S0,S1,Option.getD_some,Option.getD_none,A8,n8,k7,B8,k6,j4,C0,j5,B9,B7,B6,F5,t7,j8,B4,s9,j7,B3,A6,B5,t6,B1,j3,s8,B2,F7,F6,A7,A9,j6,B0,t8,j9,z1,f8,A5,A4,A3,F2,q7,i6,A1,p8,f9,A0,y8,A2,p9,z7,f7,p7,z8,F4,F3,y9,p6,i8,z6,s7,i7,H5,H4,I6,H6,I0,H8,H7,I5,H9,I1,I2,I3,I4,x1,w9,w8,J5,J6,J4,E4,n9,C6,u1,I8,l9,N4,J9,J3,L4,L6,L5,N5,N6,G7,G9,G8,H0,H1,K9,u3,K8,C7,C8,C9,u4,S3,D6,u7,N2,N3,F8,J7,J8,Option.map_some,Option.map_none,D0,u5,u0,k8,C4,C5,G0,F9,M2,M1,H3,D7,D8,H2,L7,L8,G3,l1,G4,k9,K4,D5,D4,d9,L3,L9,G6,K5,K7,K6,u2,x9,y6,y0,d4,L2,N8,N7,K2,G5,O9,K3,l2,D2,D3,u6,D1,d7,o0,d6,o9,d5,I7,M3,M4,x4,x5,E6,E5,C3]
 refine O6 (X:=Nat) (fun i=>⟨P6 [(0,.val (tx u)),(4,.val (num (if neg then -1 else 1))),(5,.val (num (T5 (u.take i)))),(6,.val (num i))],P3 []⟩) (fun i=>i≤u.length∧(u.take i).all Q8=true) (fun i=>u.length - i) 0 (Le.mk _ _ ?_ ?_) ?_ ?_
 · simp [upd,h0,h4,h5,num,T5]
 · simp
 · simp
 · rintro i ⟨hi,hall⟩
   have hlv:T5 (u.take i) < 1000000000000000000:=by
    have h1:=b21 _ hall
    have h2:(u.take i).length≤18:=by simp;omega
    exact Nat.lt_of_lt_of_le h1 (Nat.le_trans (Nat.pow_le_pow_right (by omega) h2) (by decide))
   simp [tx,num,a8,M8]
   refine O7 (fun h1=>?_) (fun h1=>?_)
   · have e1:((u[i].toNat:Int) < 48)↔u[i].toNat < 48:=by omega
     have e1':((48:Int)≤(u[i].toNat:Int))↔48≤u[i].toNat:=by omega
     have e2:((57:Int) < (u[i].toNat:Int))↔57 < u[i].toNat:=by omega
     by_cases h2:u[i].toNat < 48
     · have h2':¬ 48≤u[i].toNat:=by omega
       simp [tx,num,a8,M8,h1,e1,e1',e2,h2,h2']
       rw [if_neg (fun hA=>by have:=hA u[i] (List.getElem_mem h1);simp [Q8] at this;omega)];rfl
     · have h2':48≤u[i].toNat:=by omega
       by_cases h3:57 < u[i].toNat
       · simp [tx,num,a8,M8,h1,e1,e1',e2,h2,h2',h3]
         rw [if_neg (fun hA=>by have:=hA u[i] (List.getElem_mem h1);simp [Q8] at this;omega)];rfl
       · simp [tx,num,a8,M8,h1,e1,e1',e2,h2,h2',h3]
         have hlv2:T5 (u.take i) < 100000000000000000:=by
          have h1':=b21 _ hall
          have h2':(u.take i).length≤17:=by simp;omega
          exact Nat.lt_of_lt_of_le h1' (Nat.le_trans (Nat.pow_le_pow_right (by omega) h2') (by decide))
         have hw:IntKind.i64.wrap (IntKind.i64.wrap (IntKind.i64.wrap ((T5 (u.take i):Int)*10)+IntKind.i64.wrap (u[i].toNat:Int)) - 48)=((T5 (u.take (i+1)):Nat):Int):=by
          rw [b9d u i 0 h1,a4t,a2c _ _ _ h1]
          rw [wrap_i64 (x:=(T5 (u.take i):Int)*10) (by omega) (by omega),wrap_i64 (x:=(u[i].toNat:Int)) (by omega) (by omega),wrap_i64 (x:=(T5 (u.take i):Int)*10+(u[i].toNat:Int)) (by omega) (by omega),wrap_i64 (by omega) (by omega)]
          omega
         refine LoopNext.mk (i+1) ⟨by omega,?_⟩ (by omega) (Le.mk _ _ ?_ ?_)
         · rw [b1d _ _ _ h1,hall];simp [Q8];omega
         · simp [hw,tx,num];exact wrap_i64 (by omega) (by omega)
         · simp
   · have e:i=u.length:=by omega
     subst e
     rw [List.take_length] at hall hlv
     simp [tx,num,a8]
     have hA:∀ x,x∈u→Q8 x=true:=by simpa using hall
     have w1:IntKind.i64.wrap (-(T5 u:Int))=-(T5 u:Int):=wrap_i64 (by omega) (by omega)
     have w2:IntKind.i64.wrap (T5 u:Int)=(T5 u:Int):=wrap_i64 (by omega) (by omega)
     cases neg with
     | true=>simp [a3v,num,eq_true hA,w1]
     | false=>simp [a3v,num,eq_true hA,w2]
theorem a27 (u:Tx) (neg:Bool) (st:St) (h0:st.env 0=.val (tx u)) (h4:st.env 4=.val (num (if neg then -1 else 1))) (hu:u.length < 1099511627776) :
 EC Tryz.prog ir240_from3 st (K:=⟨a45 [.t 2,.t 3] (a3v (Y3 neg u))⟩):=by
 unfold ir240_from3
 by_cases a1:u.length=0
 · have:u=[]:=List.eq_nil_of_length_eq_zero a1
   subst this
   simp [h0,tx,a8]
   rw [show Y3 neg []=none by simp [Y3,a0r]];rfl
 · have a1':¬ ((u.length:Int)=0):=by omega
   by_cases a2:18 < u.length
   · have a2':(18:Int) < u.length:=by omega
     have a2'':¬ (u.length:Int)≤18:=by omega
     simp [h0,tx,a8,a1,a1',a2',a2'']
     rw [show Y3 neg u=none by simp [Y3,a0r,a2]];rfl
   · have hpos:0 < u.length:=by omega
     have a2':¬ (18:Int) < u.length:=by omega
     have a2'':(u.length:Int)≤18:=by omega
     have e0:u[0]?.getD 0=u.getD 0 0:=by simp
     have e1:((u[0].toNat:Int)=48)↔u[0].toNat=48:=by omega
     have e2:((1:Int) < (u.length:Int))↔1 < u.length:=by omega
     have hg:u[0]?.getD 0=u[0]:=by simp [List.getElem?_eq_getElem hpos]
     have hgo:a0r neg u=false→∀ st':St,st'.env 0=.val (tx u)→st'.env 4=.val (num (if neg then -1 else 1))→st'.env 5=.val (num 0)→EC Tryz.prog ir240_from5 st' (K:=⟨a45 [.t 2,.t 3] (a3v (Y3 neg u))⟩):=fun hb st' q1 q2 q3=>by
      rw [show Y3 neg u=(if u.all Q8 then some (if neg then - (T5 u:Int) else (T5 u:Int)) else none) by unfold Y3;rw [hb];rfl]
      exact b2v u neg st' q1 q2 q3 (by omega)
     by_cases a3:u[0].toNat=48
     · by_cases a4:1 < u.length
       · simp [h0,tx,a8,a1,a1',a2',a2'',M8,hpos,e1,e2,a3,a4]
         rw [show Y3 neg u=none by simp [Y3,a0r,hg,a3,a4]];rfl
       · cases neg with
         | true=>
          simp [h0,h4,num,tx,a8,a1,a1',a2',a2'',M8,hpos,e1,e2,a3,a4]
          rw [show Y3 true u=none by simp [Y3,a0r,hg,a3]];rfl
         | false=>
          simp [h0,h4,num,tx,a8,a1,a1',a2',a2'',M8,hpos,e1,e2,a3,a4]
          refine hgo ?_ _ ?_ ?_ ?_
          · simp [a0r,hg,a3,a4,a1,a2]
          · simp [h0,tx]
          · simp [h4,num]
          · simp [num]
     · simp [h0,tx,a8,a1,a1',a2',a2'',M8,hpos,e1,e2,a3]
       refine hgo ?_ _ ?_ ?_ ?_
       · simp [a0r,hg,a3,a1,a2]
       · simp [h0,tx]
       · simp [h4,num]
       · simp [num]
theorem b5w (t:Tx) (ht:t.length < 1099511627776):n7 Tryz.prog 240 [.val (tx t)] (.ret (a3v (S6 t)) []) []:=by
 refine J0 mixed ok240 rfl (fun ι=>by cases S6 t<;>rfl) ?_
 unfold ir240
 rw [b7]
 cases t with
 | nil=>
  simp [d3,x8,M5,a7,c8,tx,a8]
  rw [show S6 []=Y3 false [] by simp [S6,Y3,a0r]]
  refine a27 [] false _ ?_ ?_ (by simp)<;>simp [tx,num]
 | cons c r=>
  have hr:r.length < 1099511627776:=by simp at ht;omega
  have e0:(0:Int) < ((r.length:Int)+1):=by omega
  by_cases hc:c=45
  · have e1:((c.toNat:Int)=45):=by rw [hc];rfl
    simp [d3,x8,M5,a7,c8,tx,a8,M8,e0,e1,S2]
    rw [show S6 (c :: r)=Y3 true r by simp [S6,hc]]
    refine a27 r true _ ?_ ?_ hr<;>simp [tx,num]
  · have e1:¬ ((c.toNat:Int)=45):=fun h=>hc (UInt8.toNat_inj.1 (by simp;omega))
    simp [d3,x8,M5,a7,c8,tx,a8,M8,e0,e1]
    rw [show S6 (c :: r)=Y3 false (c :: r) by simp [S6,hc]]
    refine a27 (c :: r) false _ ?_ ?_ ht<;>simp [tx,num]
end Go.Proofs
end
section
namespace Go.Proofs
open Go.PW Go.KP
attribute [local simp] RV.cells RV.one PV.cells PV.solid PV.one J2 a6 N0 N1 RV.ofCells elems PV.killL
variable [GF]
structure UO (st:St) (u:LUrl):Prop where
 e1:st.env 1=.ptr 1 0
 m1:st.mem 1=.box [.val (tx u.scheme),.val (tx u.user),.val (tx u.host),.val (num u.port),.val (tx u.path),.val (tx u.query),.val (tx u.frag),.val (.bool u.hasQ),.val (.bool u.hasF)]
section
variable {Ks:Kx (St→Prop)} {kx:Kx (RV→St→Prop)} {st:St} {u:LUrl} {b:Bool}
end
end Go.Proofs
end
section
namespace Go.Proofs
open Go.PW Go.KP
attribute [local simp] RV.cells RV.one PV.cells PV.solid PV.one J2 a6 N0 N1 RV.ofCells elems PV.killL
variable [GF]
abbrev prs (r:LUrl×Bool):Kx (PExit→St→Prop):=⟨a45 [.c 2 true 9,.t 3] (c1j r)⟩
structure UP (st:St) (u:LUrl) (r:Tx):Prop where
 e2:st.env 2=.ptr 2 0
 e5:st.env 5=.ptr 5 0
 e6:st.env 6=.val (tx r)
 m2:st.mem 2=.box (a8t LUrl.zero)
 m5:st.mem 5=.box (a8t u)
end Go.Proofs
end
section
namespace Go.Proofs
open Go.PW Go.KP
variable [GF]
end Go.Proofs
end
