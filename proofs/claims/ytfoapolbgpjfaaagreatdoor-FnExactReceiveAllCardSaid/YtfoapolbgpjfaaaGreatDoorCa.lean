/- Ca: merged out of KSa, KSb, KSc, KSd, KSr, KSk. -/
import Derived.Test.YtfoapolbgpjfaaaGreatDoorBa
import Derived.Test.YtfoapolbgpjfaaaGreatDoorAc
set_option linter.unusedSectionVars false
set_option linter.unusedSimpArgs false
set_option linter.unusedVariables false
set_option maxRecDepth 100000
section
namespace Go.Proofs
open Go.PW Go.KP
attribute [local simp] RV.cells RV.one PV.cells PV.solid PV.one G5 a8 O1 O3 RV.ofCells elems PV.killL
theorem mixed:Tryz.prog.follows .mixedOrders=true:=by kernel_rfl
variable [GF]
theorem a8e (k:IntKind) (a lo hi:Int):i7 Tryz.prog 129 [.val (.int k a),.val (.int k lo),.val (.int k hi)] (.ret (.val (.bool (decide (lo≤a∧a≤hi)))) []) []:=by
 refine F9 mixed ok129 rfl (fun _=>rfl) ?_
 unfold ir129
 rw [b8]
 by_cases h:lo≤a
 · simp [d6,s8,L3,b7,c8,h]
 · simp [d6,s8,L3,b7,c8,h]
theorem c22 (t:Tx) (c:UInt8) (ht:t.length < 1099511627776):i7 Tryz.prog 198 [.val (tx t),.val (rvb c)] (.ret (.val (num (a0p t c))) []) []:=by
 refine F9 mixed ok198 rfl (fun _=>rfl) ?_
 unfold ir198
 rw [b8]
 simp only [x8,F7,y0,F5,y6,p9,x9,F6,j4,A4,G7,G8,d4,o0,o9,f8,y7,p8,i6,F4,x7,p7,p6,D2,D3,T8,T9,Option.getD_some,Option.getD_none,B9,t6,l9,C9,l8,k8,D1,k9,D0,C8,C7,H2,v7,l6,C5,u9,l5,C4,B7,C6,v6,C2,k7,u7,C3,H4,H3,B8,C0,l4,C1,v8,l7,A7,j6,B6,B5,B4,G9,u5,j8,B2,u3,j7,B1,A5,B3,u4,A9,j5,u2,B0,H1,H0,A6,u1,k6,A8,u6,j9,J0,I9,K3,J1,J5,J3,J2,K2,J4,J6,J7,J8,J9,z7,z6,y9,L4,L5,L2,F8,t7,D7,w6,K5,q7,P0,L8,K8,N0,N2,N1,P1,P2,I2,I4,I3,I5,I6,M7,w8,M6,D8,D9,E4,w9,U1,F1,x6,O8,O9,H5,L6,L7,Option.map_some,Option.map_none,E5,x4,w5,n0,D5,D6,H7,H6,N7,N6,I8,F2,F3,I7,N3,N4,H8,n8,H9,n7,M2,F0,E9,f9,M9,N5,I1,M3,M5,M4,w7,A1,A3,A2,d8,M8,P4,P3,L9,I0,Q6,M1,n9,E7,E8,x5,E6,f7,t8,f6,u0,d9,K4,N8,N9,z8,A0,G3,G0,D4,d6,s8,L3,b7,c8,tx,rvb,num]
 refine P5 (X:=Nat) (fun i=>⟨P9 [(0,.val (.str (bs t))),(1,.val (.int .u8 c.toNat)),(5,.val (.int .i64 i))],Q1 []⟩) (fun i=>i≤t.length∧∀ k,k < i→t.getD k 0≠c) (fun i=>t.length - i) 0 (Le.mk _ _ ?_ ?_) ?_ ?_
 · simp [upd]
 · simp
 · simp
 · rintro i ⟨hi,hne⟩
   simp [b9,O6,c3f]
   refine P8 (fun h1=>?_) (fun h1=>?_)
   · simp [b9,O6,c3f,h1]
     refine P8 (fun h2=>?_) (fun h2=>?_)
     · simp
       rw [b6y t c i hi hne (.inr (by rw [a3c _ _ _ h1];exact h2))];rfl
     · simp
       refine LoopNext.mk (i+1) ⟨by omega,fun k hk=>?_⟩ (by omega) (Le.mk _ _ ?_ ?_)
       · by_cases e:k=i
         · subst e;simpa [List.getElem?_eq_getElem h1] using h2
         · simpa using hne k (by omega)
       · simp [L2,t7];rw [wrap_i64 (by omega) (by omega)]
       · simp
   · have e:i=t.length:=by omega
     simp [b9]
     rw [b6y t c i hi hne (.inl e),e];rfl
theorem b17 (c:UInt8):i7 Tryz.prog 215 [.val (rvb c)] (.ret (.val (.bool (S3 c))) []) []:=by
 refine F9 mixed ok215 rfl (fun _=>rfl) ?_
 unfold ir215
 rw [b8]
 have e1:((48:Int)≤c.toNat)↔48≤c.toNat:=by omega
 have e2:((c.toNat:Int)≤57)↔c.toNat≤57:=by omega
 by_cases h:48≤c.toNat
 · simp [d6,s8,L3,b7,c8,rvb,S3,h,e1,e2]
 · simp [d6,s8,L3,b7,c8,rvb,S3,h,e1,e2]
end Go.Proofs
end
section
namespace Go.Proofs
open Go.PW Go.KP
attribute [local simp] RV.cells RV.one PV.cells PV.solid PV.one G5 a8 O1 O3 RV.ofCells elems PV.killL
variable [GF]
theorem c5u (m:Nat):V8 [RV.int .u8 (48+(m:Int))]=bs [UInt8.ofNat (48+m)]:=by
 have:(48+(m:Int)).toNat=48+m:=by omega
 simp only [V8,bs,List.map,RV.byte,this]
theorem a4r (n:Nat):n≤9223372036854775807→i7 Tryz.prog 223 [.val (num n)] (.ret (.val (tx (a0z n))) []) []:=by
 induction n using Nat.strongRecOn with
 | ind n ih=>
  intro hn
  refine F9 mixed ok223 rfl (fun _=>rfl) ?_
  unfold ir223
  rw [b8]
  have g1:¬ ((n:Int)=-9223372036854775808):=by omega
  have g2:¬ ((n:Int) < 0):=by omega
  by_cases h:n < 10
  · have g3:(n:Int) < 10:=by omega
    have g4:IntKind.i64.wrap (48+(n:Int))=48+(n:Int):=wrap_i64 (by omega) (by omega)
    have g5:IntKind.u8.wrap (48+(n:Int))=48+(n:Int):=a0u (by omega) (by omega)
    simp [d6,s8,L3,b7,c8,num,g1,g2,g3,g4,g5,RV.isU8]
    rw [a0j h]
    rw [c5u];rfl
  · have g3:¬ ((n:Int) < 10):=by omega
    have g6:(n:Int).tdiv 10=((n / 10:Nat):Int):=by rw [Int.tdiv_eq_ediv_of_nonneg (by omega)];omega
    have g7:(n:Int).tmod 10=((n % 10:Nat):Int):=by rw [Int.tmod_eq_emod_of_nonneg (by omega)];omega
    have hih:=ih (n / 10) (by omega) (by omega)
    rw [a2c h]
    have hl:=b6z (n / 10)
    have ha:n / 10≤922337203685477580:=by omega
    generalize n / 10=a at *
    have hb:n % 10 < 10:=Nat.mod_lt _ (by omega)
    generalize n % 10=b at *
    have g8:IntKind.i64.wrap (a:Int)=(a:Int):=wrap_i64 (by omega) (by omega)
    have g4:IntKind.i64.wrap (48+(b:Int))=48+(b:Int):=wrap_i64 (by omega) (by omega)
    have g5:IntKind.u8.wrap (48+(b:Int))=48+(b:Int):=a0u (by omega) (by omega)
    simp [d6,s8,L3,b7,c8,num,g1,g2,g3,g6,g7,g8,g4,g5,RV.isU8]
    refine V7 rfl rfl (.inl rfl) hih ?_
    simp [d6,s8,L3,b7,c8,num,g1,g2,g3,g6,g7,g8,g4,g5,RV.isU8,tx]
    rw [c5u]
    simp [b9,S8]
    omega
def a40:Option Int→PV
 | some n=>.tup [.val (num n),.val (.bool true)]
 | none=>.tup [.val (num 0),.val (.bool false)]
theorem b4w (u:Tx) (neg:Bool) (st:St) (h0:st.env 0=.val (tx u)) (h4:st.env 4=.val (num (if neg then -1 else 1))) (h5:st.env 5=.val (num 0)) (hu:u.length≤18) :
 EC Tryz.prog ir240_from5 st (K:=⟨a4o [.t 2,.t 3] (a40 (if u.all S3 then some (if neg then - (V1 u:Int) else (V1 u:Int)) else none))⟩):=by
 unfold ir240_from5
 simp only [x8,F7,y0,F5,y6,p9,x9,F6,j4,A4,G7,G8,d4,o0,o9,f8,y7,p8,i6,F4,x7,p7,p6,D2,D3,T8,T9,Option.getD_some,Option.getD_none,B9,t6,l9,C9,l8,k8,D1,k9,D0,C8,C7,H2,v7,l6,C5,u9,l5,C4,B7,C6,v6,C2,k7,u7,C3,H4,H3,B8,C0,l4,C1,v8,l7,A7,j6,B6,B5,B4,G9,u5,j8,B2,u3,j7,B1,A5,B3,u4,A9,j5,u2,B0,H1,H0,A6,u1,k6,A8,u6,j9,J0,I9,K3,J1,J5,J3,J2,K2,J4,J6,J7,J8,J9,z7,z6,y9,L4,L5,L2,F8,t7,D7,w6,K5,q7,P0,L8,K8,N0,N2,N1,P1,P2,I2,I4,I3,I5,I6,M7,w8,M6,D8,D9,E4,w9,U1,F1,x6,O8,O9,H5,L6,L7,Option.map_some,Option.map_none,E5,x4,w5,n0,D5,D6,H7,H6,N7,N6,I8,F2,F3,I7,N3,N4,H8,n8,H9,n7,M2,F0,E9,f9,M9,N5,I1,M3,M5,M4,w7,A1,A3,A2,d8,M8,P4,P3,L9,I0,Q6,M1,n9,E7,E8,x5,E6,f7,t8,f6,u0,d9,K4,N8,N9,z8,A0,G3,G0,D4]
 refine P5 (X:=Nat) (fun i=>⟨P9 [(0,.val (tx u)),(4,.val (num (if neg then -1 else 1))),(5,.val (num (V1 (u.take i)))),(6,.val (num i))],Q1 []⟩) (fun i=>i≤u.length∧(u.take i).all S3=true) (fun i=>u.length - i) 0 (Le.mk _ _ ?_ ?_) ?_ ?_
 · simp [upd,h0,h4,h5,num,V1]
 · simp
 · simp
 · rintro i ⟨hi,hall⟩
   have hlv:V1 (u.take i) < 1000000000000000000:=by
    have h1:=b41 _ hall
    have h2:(u.take i).length≤18:=by simp;omega
    exact Nat.lt_of_lt_of_le h1 (Nat.le_trans (Nat.pow_le_pow_right (by omega) h2) (by decide))
   simp [tx,num,b9,O6]
   refine P8 (fun h1=>?_) (fun h1=>?_)
   · have e1:((u[i].toNat:Int) < 48)↔u[i].toNat < 48:=by omega
     have e1':((48:Int)≤(u[i].toNat:Int))↔48≤u[i].toNat:=by omega
     have e2:((57:Int) < (u[i].toNat:Int))↔57 < u[i].toNat:=by omega
     by_cases h2:u[i].toNat < 48
     · have h2':¬ 48≤u[i].toNat:=by omega
       simp [tx,num,b9,O6,h1,e1,e1',e2,h2,h2']
       rw [if_neg (fun hA=>by have:=hA u[i] (List.getElem_mem h1);simp [S3] at this;omega)];rfl
     · have h2':48≤u[i].toNat:=by omega
       by_cases h3:57 < u[i].toNat
       · simp [tx,num,b9,O6,h1,e1,e1',e2,h2,h2',h3]
         rw [if_neg (fun hA=>by have:=hA u[i] (List.getElem_mem h1);simp [S3] at this;omega)];rfl
       · simp [tx,num,b9,O6,h1,e1,e1',e2,h2,h2',h3]
         have hlv2:V1 (u.take i) < 100000000000000000:=by
          have h1':=b41 _ hall
          have h2':(u.take i).length≤17:=by simp;omega
          exact Nat.lt_of_lt_of_le h1' (Nat.le_trans (Nat.pow_le_pow_right (by omega) h2') (by decide))
         have hw:IntKind.i64.wrap (IntKind.i64.wrap (IntKind.i64.wrap ((V1 (u.take i):Int)*10)+IntKind.i64.wrap (u[i].toNat:Int)) - 48)=((V1 (u.take (i+1)):Nat):Int):=by
          rw [c1k u i 0 h1,a52,a3c _ _ _ h1]
          rw [wrap_i64 (x:=(V1 (u.take i):Int)*10) (by omega) (by omega),wrap_i64 (x:=(u[i].toNat:Int)) (by omega) (by omega),wrap_i64 (x:=(V1 (u.take i):Int)*10+(u[i].toNat:Int)) (by omega) (by omega),wrap_i64 (by omega) (by omega)]
          omega
         refine LoopNext.mk (i+1) ⟨by omega,?_⟩ (by omega) (Le.mk _ _ ?_ ?_)
         · rw [b23 _ _ _ h1,hall];simp [S3];omega
         · simp [hw,tx,num];exact wrap_i64 (by omega) (by omega)
         · simp
   · have e:i=u.length:=by omega
     subst e
     rw [List.take_length] at hall hlv
     simp [tx,num,b9]
     have hA:∀ x,x∈u→S3 x=true:=by simpa using hall
     have w1:IntKind.i64.wrap (-(V1 u:Int))=-(V1 u:Int):=wrap_i64 (by omega) (by omega)
     have w2:IntKind.i64.wrap (V1 u:Int)=(V1 u:Int):=wrap_i64 (by omega) (by omega)
     cases neg with
     | true=>simp [a40,num,eq_true hA,w1]
     | false=>simp [a40,num,eq_true hA,w2]
theorem a4b (u:Tx) (neg:Bool) (st:St) (h0:st.env 0=.val (tx u)) (h4:st.env 4=.val (num (if neg then -1 else 1))) (hu:u.length < 1099511627776) :
 EC Tryz.prog ir240_from3 st (K:=⟨a4o [.t 2,.t 3] (a40 (a0l neg u))⟩):=by
 unfold ir240_from3
 by_cases a1:u.length=0
 · have:u=[]:=List.eq_nil_of_length_eq_zero a1
   subst this
   simp [h0,tx,b9]
   rw [show a0l neg []=none by simp [a0l,a1k]];rfl
 · have a1':¬ ((u.length:Int)=0):=by omega
   by_cases a2:18 < u.length
   · have a2':(18:Int) < u.length:=by omega
     have a2'':¬ (u.length:Int)≤18:=by omega
     simp [h0,tx,b9,a1,a1',a2',a2'']
     rw [show a0l neg u=none by simp [a0l,a1k,a2]];rfl
   · have hpos:0 < u.length:=by omega
     have a2':¬ (18:Int) < u.length:=by omega
     have a2'':(u.length:Int)≤18:=by omega
     have e0:u[0]?.getD 0=u.getD 0 0:=by simp
     have e1:((u[0].toNat:Int)=48)↔u[0].toNat=48:=by omega
     have e2:((1:Int) < (u.length:Int))↔1 < u.length:=by omega
     have hg:u[0]?.getD 0=u[0]:=by simp [List.getElem?_eq_getElem hpos]
     have hgo:a1k neg u=false→∀ st':St,st'.env 0=.val (tx u)→st'.env 4=.val (num (if neg then -1 else 1))→st'.env 5=.val (num 0)→EC Tryz.prog ir240_from5 st' (K:=⟨a4o [.t 2,.t 3] (a40 (a0l neg u))⟩):=fun hb st' q1 q2 q3=>by
      rw [show a0l neg u=(if u.all S3 then some (if neg then - (V1 u:Int) else (V1 u:Int)) else none) by unfold a0l;rw [hb];rfl]
      exact b4w u neg st' q1 q2 q3 (by omega)
     by_cases a3:u[0].toNat=48
     · by_cases a4:1 < u.length
       · simp [h0,tx,b9,a1,a1',a2',a2'',O6,hpos,e1,e2,a3,a4]
         rw [show a0l neg u=none by simp [a0l,a1k,hg,a3,a4]];rfl
       · cases neg with
         | true=>
          simp [h0,h4,num,tx,b9,a1,a1',a2',a2'',O6,hpos,e1,e2,a3,a4]
          rw [show a0l true u=none by simp [a0l,a1k,hg,a3]];rfl
         | false=>
          simp [h0,h4,num,tx,b9,a1,a1',a2',a2'',O6,hpos,e1,e2,a3,a4]
          refine hgo ?_ _ ?_ ?_ ?_
          · simp [a1k,hg,a3,a4,a1,a2]
          · simp [h0,tx]
          · simp [h4,num]
          · simp [num]
     · simp [h0,tx,b9,a1,a1',a2',a2'',O6,hpos,e1,e2,a3]
       refine hgo ?_ _ ?_ ?_ ?_
       · simp [a1k,hg,a3,a1,a2]
       · simp [h0,tx]
       · simp [h4,num]
       · simp [num]
theorem b7z (t:Tx) (ht:t.length < 1099511627776):i7 Tryz.prog 240 [.val (tx t)] (.ret (a40 (U5 t)) []) []:=by
 refine F9 mixed ok240 rfl (fun ι=>by cases U5 t<;>rfl) ?_
 unfold ir240
 rw [b8]
 cases t with
 | nil=>
  simp [d6,s8,L3,b7,c8,tx,b9]
  rw [show U5 []=a0l false [] by simp [U5,a0l,a1k]]
  refine a4b [] false _ ?_ ?_ (by simp)<;>simp [tx,num]
 | cons c r=>
  have hr:r.length < 1099511627776:=by simp at ht;omega
  have e0:(0:Int) < ((r.length:Int)+1):=by omega
  by_cases hc:c=45
  · have e1:((c.toNat:Int)=45):=by rw [hc];rfl
    simp [d6,s8,L3,b7,c8,tx,b9,O6,e0,e1,U0]
    rw [show U5 (c :: r)=a0l true r by simp [U5,hc]]
    refine a4b r true _ ?_ ?_ hr<;>simp [tx,num]
  · have e1:¬ ((c.toNat:Int)=45):=fun h=>hc (UInt8.toNat_inj.1 (by simp;omega))
    simp [d6,s8,L3,b7,c8,tx,b9,O6,e0,e1]
    rw [show U5 (c :: r)=a0l false (c :: r) by simp [U5,hc]]
    refine a4b (c :: r) false _ ?_ ?_ ht<;>simp [tx,num]
end Go.Proofs
end
section
namespace Go.Proofs
open Go.PW Go.KP
attribute [local simp] RV.cells RV.one PV.cells PV.solid PV.one G5 a8 O1 O3 RV.ofCells elems PV.killL
variable [GF]
structure UO (st:St) (u:LUrl):Prop where
 e1:st.env 1=.ptr 1 0
 m1:st.mem 1=.box [.val (tx u.scheme),.val (tx u.user),.val (tx u.host),.val (num u.port),.val (tx u.path),.val (tx u.query),.val (tx u.frag),.val (.bool u.hasQ),.val (.bool u.hasF)]
section
variable {Ks:Kx (St→Prop)} {kx:Kx (RV→St→Prop)} {st:St} {u:LUrl} {b:Bool}
end
end Go.Proofs
end
section
namespace Go.Proofs
open Go.PW Go.KP
attribute [local simp] RV.cells RV.one PV.cells PV.solid PV.one G5 a8 O1 O3 RV.ofCells elems PV.killL
variable [GF]
abbrev prs (r:LUrl×Bool):Kx (PExit→St→Prop):=⟨a4o [.c 2 true 9,.t 3] (c30 r)⟩
structure UP (st:St) (u:LUrl) (r:Tx):Prop where
 e2:st.env 2=.ptr 2 0
 e5:st.env 5=.ptr 5 0
 e6:st.env 6=.val (tx r)
 m2:st.mem 2=.box (b0d LUrl.zero)
 m5:st.mem 5=.box (b0d u)
end Go.Proofs
end
section
namespace Go.Proofs
open Go.PW Go.KP
variable [GF]
end Go.Proofs
end
section
namespace Go.Proofs
open Go.PW Go.KP
attribute [local simp] RV.cells RV.one PV.cells PV.solid PV.one G5 a8 O1 O3 RV.ofCells elems PV.killL
variable [GF]
theorem b7y (l:List Tx) (t:Tx) (hl:l.length < 1099511627776):i7 Tryz.prog 192 [.val (.list 1 (l.map tx)),.val (tx t)] (.ret (.val (.bool (decide (t∈l)))) []) []:=by
 refine F9 mixed ok192 rfl (fun _=>rfl) ?_
 unfold ir192
 rw [b8]
 simp [d6,s8,L3,b7,c8,num]
 refine P5 (X:=Nat) (fun i=>⟨P9 [(0,.val (.list 1 (l.map tx))),(1,.val (tx t)),(5,.val (num i))],Q1 []⟩) (fun i=>i≤l.length∧t∉l.take i) (fun i=>l.length - i) 0 (Le.mk _ _ ?_ ?_) ?_ ?_
 · simp [upd,num]
 · simp
 · simp
 · rintro i ⟨hi,hne⟩
   simp [num]
   refine P8 (fun h1=>?_) (fun h1=>?_)
   · have e1:(l.map tx)[i]?.getD .nilptr=tx l[i]:=by simp [List.getElem?_eq_getElem h1]
     simp [num,h1,e1,tx,R2]
     by_cases hu:l[i]=t
     · have:t∈l:=by rw [← hu];exact List.getElem_mem h1
       simp [hu,this]
     · simp [hu]
       refine LoopNext.mk (i+1) ⟨by omega,?_⟩ (by omega) (Le.mk _ _ ?_ ?_)
       · rw [List.take_add_one,List.getElem?_eq_getElem h1,List.mem_append]
         rintro (e | e)
         · exact hne e
         · exact hu (by simpa using e:t=l[i]).symm
       · simp [num,tx];exact wrap_i64 (by omega) (by omega)
       · simp
   · have e:i=l.length:=by omega
     subst e
     rw [List.take_length] at hne
     simp [hne]
end Go.Proofs
end
