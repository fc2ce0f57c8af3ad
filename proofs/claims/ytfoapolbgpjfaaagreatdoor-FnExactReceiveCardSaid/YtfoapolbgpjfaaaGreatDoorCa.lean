/- Ca: merged out of KSa, KSb, KSc, KSd, KSr, KSk. -/
import Derived.Test.YtfoapolbgpjfaaaGreatDoorBa
import Derived.Test.YtfoapolbgpjfaaaGreatDoorAc
set_option linter.unusedSectionVars false
set_option linter.unusedSimpArgs false
set_option linter.unusedVariables false
set_option maxRecDepth 100000
section
namespace Go.Proofs
open Go.PW Go.KP
attribute [local simp] RV.cells RV.one PV.cells PV.solid PV.one F7 a6 N5 N7 RV.ofCells elems PV.killL
theorem mixed:Tryz.prog.follows .mixedOrders=true:=by kernel_rfl
variable [GF]
theorem a4i (k:IntKind) (a lo hi:Int):f9 Tryz.prog 129 [.val (.int k a),.val (.int k lo),.val (.int k hi)] (.ret (.val (.bool (decide (lo≤a∧a≤hi)))) []) []:=by
 refine F4 mixed ok129 rfl (fun _=>rfl) ?_
 unfold ir129
 rw [a8]
 by_cases h:lo≤a
 · simp [b9,p6,K4,a7,b8,h]
 · simp [b9,p6,K4,a7,b8,h]
theorem c3e (t:Tx) (c:UInt8) (ht:t.length < 1099511627776):f9 Tryz.prog 198 [.val (tx t),.val (rvb c)] (.ret (.val (num (a0g t c))) []) []:=by
 refine F4 mixed ok198 rfl (fun _=>rfl) ?_
 unfold ir198
 rw [a8]
 simp only [w9,F2,x5,F0,x6,o0,x4,F1,i6,z8,G0,G3,c8,m7,n0,f5,x7,n9,f8,E9,w8,n8,n7,C7,C8,T5,T6,Option.getD_some,Option.getD_none,B4,p9,l5,C4,l4,j8,C6,j9,C5,C3,C2,G7,u5,k8,C0,u3,k7,B9,B2,C1,u4,B7,j7,u2,B8,G9,G8,B3,B5,k6,B6,u6,k9,A2,i8,B1,B0,A9,G4,u0,j4,A7,t7,j3,A6,A0,A8,t8,A4,i7,t6,A5,G6,G5,A1,s9,j6,A3,u1,j5,I5,I4,J6,I6,J0,I8,I7,J5,I9,J1,J2,J3,J4,y6,y0,x9,K7,K8,K6,F3,q7,D2,u9,J8,o9,O4,L3,K3,M5,M7,M6,O5,O6,H7,H9,H8,I0,I1,M2,v7,M1,D3,D4,D5,v8,T8,E6,w7,O2,O3,H0,K9,L2,Option.map_some,Option.map_none,D6,w5,u7,l6,D0,D1,H2,H1,N2,N1,I3,E7,E8,I2,M8,M9,H3,l8,H4,l7,L6,E5,E4,f7,M4,N0,H6,L7,L9,L8,v6,y9,z7,z6,d6,M3,O8,O7,L4,H5,Q2,L5,l9,D8,D9,w6,D7,d9,s7,d8,s8,d7,J7,N3,N4,y7,y8,F6,F5,C9,b9,p6,K4,a7,b8,tx,rvb,num]
 refine P0 (X:=Nat) (fun i=>⟨Q0 [(0,.val (.str (bs t))),(1,.val (.int .u8 c.toNat)),(5,.val (.int .i64 i))],P6 []⟩) (fun i=>i≤t.length∧∀ k,k < i→t.getD k 0≠c) (fun i=>t.length - i) 0 (Le.mk _ _ ?_ ?_) ?_ ?_
 · simp [upd]
 · simp
 · simp
 · rintro i ⟨hi,hne⟩
   simp [b7,O0,c3p]
   refine P4 (fun h1=>?_) (fun h1=>?_)
   · simp [b7,O0,c3p,h1]
     refine P4 (fun h2=>?_) (fun h2=>?_)
     · simp
       rw [b6r t c i hi hne (.inr (by rw [a3b _ _ _ h1];exact h2))];rfl
     · simp
       refine LoopNext.mk (i+1) ⟨by omega,fun k hk=>?_⟩ (by omega) (Le.mk _ _ ?_ ?_)
       · by_cases e:k=i
         · subst e;simpa [List.getElem?_eq_getElem h1] using h2
         · simpa using hne k (by omega)
       · simp [K6,q7];rw [wrap_i64 (by omega) (by omega)]
       · simp
   · have e:i=t.length:=by omega
     simp [b7]
     rw [b6r t c i hi hne (.inl e),e];rfl
theorem b16 (c:UInt8):f9 Tryz.prog 215 [.val (rvb c)] (.ret (.val (.bool (S1 c))) []) []:=by
 refine F4 mixed ok215 rfl (fun _=>rfl) ?_
 unfold ir215
 rw [a8]
 have e1:((48:Int)≤c.toNat)↔48≤c.toNat:=by omega
 have e2:((c.toNat:Int)≤57)↔c.toNat≤57:=by omega
 by_cases h:48≤c.toNat
 · simp [b9,p6,K4,a7,b8,rvb,S1,h,e1,e2]
 · simp [b9,p6,K4,a7,b8,rvb,S1,h,e1,e2]
end Go.Proofs
end
section
namespace Go.Proofs
open Go.PW Go.KP
attribute [local simp] RV.cells RV.one PV.cells PV.solid PV.one F7 a6 N5 N7 RV.ofCells elems PV.killL
variable [GF]
theorem c5z (m:Nat):V2 [RV.int .u8 (48+(m:Int))]=bs [UInt8.ofNat (48+m)]:=by
 have:(48+(m:Int)).toNat=48+m:=by omega
 simp only [V2,bs,List.map,RV.byte,this]
theorem a4o (n:Nat):n≤9223372036854775807→f9 Tryz.prog 223 [.val (num n)] (.ret (.val (tx (a0p n))) []) []:=by
 induction n using Nat.strongRecOn with
 | ind n ih=>
  intro hn
  refine F4 mixed ok223 rfl (fun _=>rfl) ?_
  unfold ir223
  rw [a8]
  have g1:¬ ((n:Int)=-9223372036854775808):=by omega
  have g2:¬ ((n:Int) < 0):=by omega
  by_cases h:n < 10
  · have g3:(n:Int) < 10:=by omega
    have g4:IntKind.i64.wrap (48+(n:Int))=48+(n:Int):=wrap_i64 (by omega) (by omega)
    have g5:IntKind.u8.wrap (48+(n:Int))=48+(n:Int):=a0j (by omega) (by omega)
    simp [b9,p6,K4,a7,b8,num,g1,g2,g3,g4,g5,RV.isU8]
    rw [Z9 h]
    rw [c5z];rfl
  · have g3:¬ ((n:Int) < 10):=by omega
    have g6:(n:Int).tdiv 10=((n / 10:Nat):Int):=by rw [Int.tdiv_eq_ediv_of_nonneg (by omega)];omega
    have g7:(n:Int).tmod 10=((n % 10:Nat):Int):=by rw [Int.tmod_eq_emod_of_nonneg (by omega)];omega
    have hih:=ih (n / 10) (by omega) (by omega)
    rw [a18 h]
    have hl:=b6s (n / 10)
    have ha:n / 10≤922337203685477580:=by omega
    generalize n / 10=a at *
    have hb:n % 10 < 10:=Nat.mod_lt _ (by omega)
    generalize n % 10=b at *
    have g8:IntKind.i64.wrap (a:Int)=(a:Int):=wrap_i64 (by omega) (by omega)
    have g4:IntKind.i64.wrap (48+(b:Int))=48+(b:Int):=wrap_i64 (by omega) (by omega)
    have g5:IntKind.u8.wrap (48+(b:Int))=48+(b:Int):=a0j (by omega) (by omega)
    simp [b9,p6,K4,a7,b8,num,g1,g2,g3,g6,g7,g8,g4,g5,RV.isU8]
    refine R9 rfl rfl (.inl rfl) hih ?_
    simp [b9,p6,K4,a7,b8,num,g1,g2,g3,g6,g7,g8,g4,g5,RV.isU8,tx]
    rw [c5z]
    simp [b7,S6]
    omega
def a4z:Option Int→PV
 | some n=>.tup [.val (num n),.val (.bool true)]
 | none=>.tup [.val (num 0),.val (.bool false)]
theorem b4m (u:Tx) (neg:Bool) (st:St) (h0:st.env 0=.val (tx u)) (h4:st.env 4=.val (num (if neg then -1 else 1))) (h5:st.env 5=.val (num 0)) (hu:u.length≤18) :
 EC Tryz.prog ir240_from5 st (K:=⟨a4s [.t 2,.t 3] (a4z (if u.all S1 then some (if neg then - (U8 u:Int) else (U8 u:Int)) else none))⟩):=by
 unfold ir240_from5
 simp only [w9,F2,x5,F0,x6,o0,x4,F1,i6,z8,G0,G3,c8,m7,n0,f5,x7,n9,f8,E9,w8,n8,n7,C7,C8,T5,T6,Option.getD_some,Option.getD_none,B4,p9,l5,C4,l4,j8,C6,j9,C5,C3,C2,G7,u5,k8,C0,u3,k7,B9,B2,C1,u4,B7,j7,u2,B8,G9,G8,B3,B5,k6,B6,u6,k9,A2,i8,B1,B0,A9,G4,u0,j4,A7,t7,j3,A6,A0,A8,t8,A4,i7,t6,A5,G6,G5,A1,s9,j6,A3,u1,j5,I5,I4,J6,I6,J0,I8,I7,J5,I9,J1,J2,J3,J4,y6,y0,x9,K7,K8,K6,F3,q7,D2,u9,J8,o9,O4,L3,K3,M5,M7,M6,O5,O6,H7,H9,H8,I0,I1,M2,v7,M1,D3,D4,D5,v8,T8,E6,w7,O2,O3,H0,K9,L2,Option.map_some,Option.map_none,D6,w5,u7,l6,D0,D1,H2,H1,N2,N1,I3,E7,E8,I2,M8,M9,H3,l8,H4,l7,L6,E5,E4,f7,M4,N0,H6,L7,L9,L8,v6,y9,z7,z6,d6,M3,O8,O7,L4,H5,Q2,L5,l9,D8,D9,w6,D7,d9,s7,d8,s8,d7,J7,N3,N4,y7,y8,F6,F5,C9]
 refine P0 (X:=Nat) (fun i=>⟨Q0 [(0,.val (tx u)),(4,.val (num (if neg then -1 else 1))),(5,.val (num (U8 (u.take i)))),(6,.val (num i))],P6 []⟩) (fun i=>i≤u.length∧(u.take i).all S1=true) (fun i=>u.length - i) 0 (Le.mk _ _ ?_ ?_) ?_ ?_
 · simp [upd,h0,h4,h5,num,U8]
 · simp
 · simp
 · rintro i ⟨hi,hall⟩
   have hlv:U8 (u.take i) < 1000000000000000000:=by
    have h1:=b4s _ hall
    have h2:(u.take i).length≤18:=by simp;omega
    exact Nat.lt_of_lt_of_le h1 (Nat.le_trans (Nat.pow_le_pow_right (by omega) h2) (by decide))
   simp [tx,num,b7,O0]
   refine P4 (fun h1=>?_) (fun h1=>?_)
   · have e1:((u[i].toNat:Int) < 48)↔u[i].toNat < 48:=by omega
     have e1':((48:Int)≤(u[i].toNat:Int))↔48≤u[i].toNat:=by omega
     have e2:((57:Int) < (u[i].toNat:Int))↔57 < u[i].toNat:=by omega
     by_cases h2:u[i].toNat < 48
     · have h2':¬ 48≤u[i].toNat:=by omega
       simp [tx,num,b7,O0,h1,e1,e1',e2,h2,h2']
       rw [if_neg (fun hA=>by have:=hA u[i] (List.getElem_mem h1);simp [S1] at this;omega)];rfl
     · have h2':48≤u[i].toNat:=by omega
       by_cases h3:57 < u[i].toNat
       · simp [tx,num,b7,O0,h1,e1,e1',e2,h2,h2',h3]
         rw [if_neg (fun hA=>by have:=hA u[i] (List.getElem_mem h1);simp [S1] at this;omega)];rfl
       · simp [tx,num,b7,O0,h1,e1,e1',e2,h2,h2',h3]
         have hlv2:U8 (u.take i) < 100000000000000000:=by
          have h1':=b4s _ hall
          have h2':(u.take i).length≤17:=by simp;omega
          exact Nat.lt_of_lt_of_le h1' (Nat.le_trans (Nat.pow_le_pow_right (by omega) h2') (by decide))
         have hw:IntKind.i64.wrap (IntKind.i64.wrap (IntKind.i64.wrap ((U8 (u.take i):Int)*10)+IntKind.i64.wrap (u[i].toNat:Int)) - 48)=((U8 (u.take (i+1)):Nat):Int):=by
          rw [c1u u i 0 h1,a52,a3b _ _ _ h1]
          rw [wrap_i64 (x:=(U8 (u.take i):Int)*10) (by omega) (by omega),wrap_i64 (x:=(u[i].toNat:Int)) (by omega) (by omega),wrap_i64 (x:=(U8 (u.take i):Int)*10+(u[i].toNat:Int)) (by omega) (by omega),wrap_i64 (by omega) (by omega)]
          omega
         refine LoopNext.mk (i+1) ⟨by omega,?_⟩ (by omega) (Le.mk _ _ ?_ ?_)
         · rw [b22 _ _ _ h1,hall];simp [S1];omega
         · simp [hw,tx,num];exact wrap_i64 (by omega) (by omega)
         · simp
   · have e:i=u.length:=by omega
     subst e
     rw [List.take_length] at hall hlv
     simp [tx,num,b7]
     have hA:∀ x,x∈u→S1 x=true:=by simpa using hall
     have w1:IntKind.i64.wrap (-(U8 u:Int))=-(U8 u:Int):=wrap_i64 (by omega) (by omega)
     have w2:IntKind.i64.wrap (U8 u:Int)=(U8 u:Int):=wrap_i64 (by omega) (by omega)
     cases neg with
     | true=>simp [a4z,num,eq_true hA,w1]
     | false=>simp [a4z,num,eq_true hA,w2]
theorem a36 (u:Tx) (neg:Bool) (st:St) (h0:st.env 0=.val (tx u)) (h4:st.env 4=.val (num (if neg then -1 else 1))) (hu:u.length < 1099511627776) :
 EC Tryz.prog ir240_from3 st (K:=⟨a4s [.t 2,.t 3] (a4z (a0c neg u))⟩):=by
 unfold ir240_from3
 by_cases a1:u.length=0
 · have:u=[]:=List.eq_nil_of_length_eq_zero a1
   subst this
   simp [h0,tx,b7]
   rw [show a0c neg []=none by simp [a0c,a1b]];rfl
 · have a1':¬ ((u.length:Int)=0):=by omega
   by_cases a2:18 < u.length
   · have a2':(18:Int) < u.length:=by omega
     have a2'':¬ (u.length:Int)≤18:=by omega
     simp [h0,tx,b7,a1,a1',a2',a2'']
     rw [show a0c neg u=none by simp [a0c,a1b,a2]];rfl
   · have hpos:0 < u.length:=by omega
     have a2':¬ (18:Int) < u.length:=by omega
     have a2'':(u.length:Int)≤18:=by omega
     have e0:u[0]?.getD 0=u.getD 0 0:=by simp
     have e1:((u[0].toNat:Int)=48)↔u[0].toNat=48:=by omega
     have e2:((1:Int) < (u.length:Int))↔1 < u.length:=by omega
     have hg:u[0]?.getD 0=u[0]:=by simp [List.getElem?_eq_getElem hpos]
     have hgo:a1b neg u=false→∀ st':St,st'.env 0=.val (tx u)→st'.env 4=.val (num (if neg then -1 else 1))→st'.env 5=.val (num 0)→EC Tryz.prog ir240_from5 st' (K:=⟨a4s [.t 2,.t 3] (a4z (a0c neg u))⟩):=fun hb st' q1 q2 q3=>by
      rw [show a0c neg u=(if u.all S1 then some (if neg then - (U8 u:Int) else (U8 u:Int)) else none) by unfold a0c;rw [hb];rfl]
      exact b4m u neg st' q1 q2 q3 (by omega)
     by_cases a3:u[0].toNat=48
     · by_cases a4:1 < u.length
       · simp [h0,tx,b7,a1,a1',a2',a2'',O0,hpos,e1,e2,a3,a4]
         rw [show a0c neg u=none by simp [a0c,a1b,hg,a3,a4]];rfl
       · cases neg with
         | true=>
          simp [h0,h4,num,tx,b7,a1,a1',a2',a2'',O0,hpos,e1,e2,a3,a4]
          rw [show a0c true u=none by simp [a0c,a1b,hg,a3]];rfl
         | false=>
          simp [h0,h4,num,tx,b7,a1,a1',a2',a2'',O0,hpos,e1,e2,a3,a4]
          refine hgo ?_ _ ?_ ?_ ?_
          · simp [a1b,hg,a3,a4,a1,a2]
          · simp [h0,tx]
          · simp [h4,num]
          · simp [num]
     · simp [h0,tx,b7,a1,a1',a2',a2'',O0,hpos,e1,e2,a3]
       refine hgo ?_ _ ?_ ?_ ?_
       · simp [a1b,hg,a3,a1,a2]
       · simp [h0,tx]
       · simp [h4,num]
       · simp [num]
theorem b7w (t:Tx) (ht:t.length < 1099511627776):f9 Tryz.prog 240 [.val (tx t)] (.ret (a4z (U1 t)) []) []:=by
 refine F4 mixed ok240 rfl (fun ι=>by cases U1 t<;>rfl) ?_
 unfold ir240
 rw [a8]
 cases t with
 | nil=>
  simp [b9,p6,K4,a7,b8,tx,b7]
  rw [show U1 []=a0c false [] by simp [U1,a0c,a1b]]
  refine a36 [] false _ ?_ ?_ (by simp)<;>simp [tx,num]
 | cons c r=>
  have hr:r.length < 1099511627776:=by simp at ht;omega
  have e0:(0:Int) < ((r.length:Int)+1):=by omega
  by_cases hc:c=45
  · have e1:((c.toNat:Int)=45):=by rw [hc];rfl
    simp [b9,p6,K4,a7,b8,tx,b7,O0,e0,e1,T7]
    rw [show U1 (c :: r)=a0c true r by simp [U1,hc]]
    refine a36 r true _ ?_ ?_ hr<;>simp [tx,num]
  · have e1:¬ ((c.toNat:Int)=45):=fun h=>hc (UInt8.toNat_inj.1 (by simp;omega))
    simp [b9,p6,K4,a7,b8,tx,b7,O0,e0,e1]
    rw [show U1 (c :: r)=a0c false (c :: r) by simp [U1,hc]]
    refine a36 (c :: r) false _ ?_ ?_ ht<;>simp [tx,num]
end Go.Proofs
end
section
namespace Go.Proofs
open Go.PW Go.KP
attribute [local simp] RV.cells RV.one PV.cells PV.solid PV.one F7 a6 N5 N7 RV.ofCells elems PV.killL
variable [GF]
structure UO (st:St) (u:LUrl):Prop where
 e1:st.env 1=.ptr 1 0
 m1:st.mem 1=.box [.val (tx u.scheme),.val (tx u.user),.val (tx u.host),.val (num u.port),.val (tx u.path),.val (tx u.query),.val (tx u.frag),.val (.bool u.hasQ),.val (.bool u.hasF)]
section
variable {Ks:Kx (St→Prop)} {kx:Kx (RV→St→Prop)} {st:St} {u:LUrl} {b:Bool}
end
end Go.Proofs
end
section
namespace Go.Proofs
open Go.PW Go.KP
attribute [local simp] RV.cells RV.one PV.cells PV.solid PV.one F7 a6 N5 N7 RV.ofCells elems PV.killL
variable [GF]
abbrev prs (r:LUrl×Bool):Kx (PExit→St→Prop):=⟨a4s [.c 2 true 9,.t 3] (c4a r)⟩
structure UP (st:St) (u:LUrl) (r:Tx):Prop where
 e2:st.env 2=.ptr 2 0
 e5:st.env 5=.ptr 5 0
 e6:st.env 6=.val (tx r)
 m2:st.mem 2=.box (b0b LUrl.zero)
 m5:st.mem 5=.box (b0b u)
end Go.Proofs
end
section
namespace Go.Proofs
open Go.PW Go.KP
variable [GF]
end Go.Proofs
end
section
namespace Go.Proofs
open Go.PW Go.KP
attribute [local simp] RV.cells RV.one PV.cells PV.solid PV.one F7 a6 N5 N7 RV.ofCells elems PV.killL
variable [GF]
theorem b7v (l:List Tx) (t:Tx) (hl:l.length < 1099511627776):f9 Tryz.prog 192 [.val (.list 1 (l.map tx)),.val (tx t)] (.ret (.val (.bool (decide (t∈l)))) []) []:=by
 refine F4 mixed ok192 rfl (fun _=>rfl) ?_
 unfold ir192
 rw [a8]
 simp [b9,p6,K4,a7,b8,num]
 refine P0 (X:=Nat) (fun i=>⟨Q0 [(0,.val (.list 1 (l.map tx))),(1,.val (tx t)),(5,.val (num i))],P6 []⟩) (fun i=>i≤l.length∧t∉l.take i) (fun i=>l.length - i) 0 (Le.mk _ _ ?_ ?_) ?_ ?_
 · simp [upd,num]
 · simp
 · simp
 · rintro i ⟨hi,hne⟩
   simp [num]
   refine P4 (fun h1=>?_) (fun h1=>?_)
   · have e1:(l.map tx)[i]?.getD .nilptr=tx l[i]:=by simp [List.getElem?_eq_getElem h1]
     simp [num,h1,e1,tx,Q8]
     by_cases hu:l[i]=t
     · have:t∈l:=by rw [← hu];exact List.getElem_mem h1
       simp [hu,this]
     · simp [hu]
       refine LoopNext.mk (i+1) ⟨by omega,?_⟩ (by omega) (Le.mk _ _ ?_ ?_)
       · rw [List.take_add_one,List.getElem?_eq_getElem h1,List.mem_append]
         rintro (e | e)
         · exact hne e
         · exact hu (by simpa using e:t=l[i]).symm
       · simp [num,tx];exact wrap_i64 (by omega) (by omega)
       · simp
   · have e:i=l.length:=by omega
     subst e
     rw [List.take_length] at hne
     simp [hne]
end Go.Proofs
end
