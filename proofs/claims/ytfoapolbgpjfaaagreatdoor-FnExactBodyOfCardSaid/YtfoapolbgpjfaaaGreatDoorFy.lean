/- Fy: merged out of KJj, KJk, KJm, KJn, KXab, KSy, KXca, KXcb. -/
import Derived.Test.YtfoapolbgpjfaaaGreatDoorFo
import Derived.Test.YtfoapolbgpjfaaaGreatDoorAc
import Derived.Test.YtfoapolbgpjfaaaGreatDoorCa
import Derived.Test.YtfoapolbgpjfaaaGreatDoorBa
import Derived.Test.YtfoapolbgpjfaaaGreatDoorEc
import Derived.Test.YtfoapolbgpjfaaaGreatDoorFs
import Derived.Test.YtfoapolbgpjfaaaGreatDoorPWai
import Derived.Test.YtfoapolbgpjfaaaGreatDoorPWab
set_option linter.unusedSectionVars false
set_option linter.unusedSimpArgs false
set_option linter.unusedVariables false
set_option maxRecDepth 100000
section
namespace Go.Proofs
open Go.PW Go.KP
attribute [local simp] RV.cells RV.one PV.cells PV.solid PV.one o9 d9 l4 l0 RV.ofCells elems PV.killL
section
variable [GF]
def jbox (k n:Int) (t:Tx) (ns:List Tx) (is:List LJson):MObj:=.box [.val (num k),.val (num n),.val (tx t),.val (.list 1 (ns.map tx)),.val (.list 5 (is.map S2))]
end
end Go.Proofs
end
section
namespace Go.Proofs
open Go.PW Go.KP
attribute [local simp] RV.cells RV.one PV.cells PV.solid PV.one o9 d9 l4 l0 RV.ofCells elems PV.killL
section
variable [GH]
structure XS (st:St) (k n:Int) (t:Tx) (ns:List Tx) (is:List LJson) (i:Nat):Prop where
 e1:st.env 1=.ptr 1 0
 e3:st.env 3=.own 30
 e32:st.env 32=.val (.list 5 (is.map S2))
 e33:st.env 33=.val (num is.length)
 e34:st.env 34=.val (num i)
 m1:st.mem 1=jbox k n t ns is
end
end Go.Proofs
end
section
namespace Go.Proofs
open Go.PW Go.KP
attribute [local simp] RV.cells RV.one PV.cells PV.solid PV.one o9 d9 l4 l0 RV.ofCells elems PV.killL
section
variable [GF]
theorem a9b (u:LUrl) (hs:u.Small):f9 Tryz.prog 218 [.val (p6 u)] (.ret (.val (tx (a57 u))) []) []:=by
 refine f8 mixed ok218 rfl (fun _=>rfl) ?_
 unfold ir218
 rw [d8]
 unfold a57
 simp [f7,j4,k9,d7,f5,tx,p6,num]
 refine b8 rfl rfl (.inl rfl) (a2b u.scheme) ?_
 cases hw:K7 u.scheme with
 | false=>simp [tx]
 | true=>
  simp [d9]
  refine b8 rfl rfl (.inl rfl) (b0m (a2l u) (a5f hs)) ?_
  simp [tx]
theorem b0l (t:Tx) (ht:t.length < 1048577):f9 Tryz.prog 217 [.val (tx t)] (.ret (.val (tx (a58 t))) []) []:=by
 refine f8 mixed ok217 rfl (fun _=>rfl) ?_
 unfold ir217
 rw [d8]
 have hsm:=a2k (t:=t) (by omega)
 have hp:=a2u t (by omega)
 unfold a58
 generalize o0 t=r at *
 obtain ⟨u,b⟩:=r
 simp only at hsm ⊢
 simp [f7,j4,k9,d7,f5,tx]
 refine W9 rfl rfl (fun _=>rfl) rfl (.inl rfl) hp ?_
 simp [U7,p6,tx,num]
 cases b with
 | false=>simp [tx,bs]
 | true=>
  simp
  refine b8 rfl rfl (.inl rfl) (a2b u.scheme) ?_
  cases hw:K7 u.scheme with
  | false=>simp [tx,bs]
  | true=>
   simp
   refine b8 rfl rfl (.inl rfl) (b0n u hsm) ?_
   simp [tx]
theorem a1h (t:Tx) (ht:t.length < 1048577):f9 Tryz.prog 170 [.val (tx t)] (.ret (.val (tx (W1 t))) []) []:=by
 refine f8 mixed ok170 rfl (fun _=>rfl) ?_
 unfold ir170
 rw [d8]
 have hsm:=a2k (t:=t) (by omega)
 have hp:=a2u t (by omega)
 unfold W1
 generalize o0 t=r at *
 obtain ⟨u,b⟩:=r
 simp only at hsm ⊢
 simp [f7,j4,k9,d7,f5,tx]
 refine W9 rfl rfl (fun _=>rfl) rfl (.inl rfl) hp ?_
 simp [U7,p6,tx,num]
 cases b with
 | false=>simp [tx,bs]
 | true=>
  simp
  refine b8 rfl rfl (.inl rfl) (a9b u hsm) ?_
  simp [tx]
theorem a7a (a b:LUrl):f9 Tryz.prog 219 [.val (p6 a),.val (p6 b)] (.ret (.val (.bool (a3b a b))) []) []:=by
 refine f8 mixed ok219 rfl (fun _=>rfl) ?_
 unfold ir219
 rw [d8]
 unfold a3b
 simp [f7,j4,k9,d7,f5,tx,p6,num]
 refine b8 rfl rfl (.inl rfl) (a2b a.scheme) ?_
 cases hw:K7 a.scheme with
 | false=>simp [tx]
 | true=>
  by_cases h1:a.scheme=b.scheme
  · by_cases h2:a.host=b.host
    · by_cases h3:a.port=b.port
      · simp [h1,h2,h3,l5]
      · simp [h1,h2,h3,l5]
    · simp [h1,h2,l5]
  · simp [h1,l5]
theorem b1s (v:LViolation) (h:v.blocked.length < 1048577):f9 Tryz.prog 168 [.val (j3 v)] (.ret (.val (tx (a0m v))) []) []:=by
 refine f8 mixed ok168 rfl (fun _=>rfl) ?_
 unfold ir168
 rw [d8]
 unfold a0m
 simp [f7,j4,k9,d7,f5,tx,j3,num,d9,elems,RV.one]
 refine b8 rfl rfl (.inr rfl) (b9f a2x v.blocked (by simp [a2x])) ?_
 by_cases h1:v.blocked∈a2x
 · simp [tx,h1]
 · by_cases h2:v.redirected=true
   · simp [tx,h1,h2]
     refine b8 rfl rfl (.inl rfl) (b0l v.blocked h) ?_
     simp [tx,h1,h2]
   · simp only [Bool.not_eq_true] at h2
     simp [tx,h1,h2]
     refine b8 rfl rfl (.inl rfl) (a1h v.blocked h) ?_
     simp [tx,h1,h2]
theorem b3f (v:LViolation) (h1:v.source.length < 1048577) (h2:v.document.length < 1048577):f9 Tryz.prog 171 [.val (j3 v)] (.ret (.val (tx (a1p v))) []) []:=by
 refine f8 mixed ok171 rfl (fun _=>rfl) ?_
 unfold ir171
 rw [d8]
 have hsm:=a2k (t:=v.source) (by omega)
 have hp:=a2u v.source (by omega)
 have hq:=a2u v.document (by omega)
 have hsi:=b0l v.source h1
 unfold a1p
 generalize o0 v.source=r at *
 generalize o0 v.document=s at *
 obtain ⟨u,b⟩:=r
 obtain ⟨u',b'⟩:=s
 simp only at hsm ⊢
 simp [f7,j4,k9,d7,f5,tx,j3,num]
 refine W9 rfl rfl (fun _=>rfl) rfl (.inl rfl) hp ?_
 simp [U7,p6,tx,num]
 refine W9 rfl rfl (fun _=>rfl) rfl (.inl rfl) hq ?_
 simp [U7,p6,tx,num]
 cases b with
 | false=>
  simp [tx]
  refine b8 rfl rfl (.inl rfl) hsi ?_
  simp [tx]
 | true=>
  cases b' with
  | false=>
   simp [tx]
   refine b8 rfl rfl (.inl rfl) hsi ?_
   simp [tx]
  | true=>
   simp [tx,d9]
   refine b8 rfl rfl (.inl rfl) (a7a u u') ?_
   cases ho:a3b u u' with
   | false=>
    simp [tx]
    refine b8 rfl rfl (.inl rfl) hsi ?_
    simp [tx]
   | true=>
    simp [tx,d9]
    refine b8 rfl rfl (.inl rfl) (a9b u hsm) ?_
    simp [tx]
def a0i (v:LViolation):MObj:=.box [.val (tx v.document),.val (tx v.referrer),.val (tx v.blocked),.val (tx v.source),.val (tx v.directive),.val (tx v.sample),.val (num v.line),.val (num v.column),.val (.bool v.redirected)]
def Q5 (v:LViolation):List Tx:=[v.document,v.referrer,v.blocked,v.source]
theorem c_l05OK (v:LViolation) (hb:C9 1048576 v):f9 Tryz.prog 110 [.val (j3 v)] (.ret (.val (.bool (a36 v))) []) []:=by
 obtain ⟨b1,b2,b3,b4,b5,b6⟩:=hb
 refine f8 mixed ok110 rfl (fun _=>rfl) ?_
 unfold ir110
 rw [d8]
 obtain ⟨r,hr⟩:∃ r,a36 v=r:=⟨_,rfl⟩
 rw [hr]
 have hlong:∀ j (h:j < (Q5 v).length),100 < (Q5 v)[j].length→a36 v=false:=fun j h hh=>by
  have h4:j < 4:=h
  unfold a36
  match j,h4 with
  | 0,_=>simp [Q5] at hh;rw [decide_eq_false (by omega)];simp
  | 1,_=>simp [Q5] at hh;rw [decide_eq_false (p:=v.referrer.length≤100) (by omega)];simp
  | 2,_=>simp [Q5] at hh;rw [decide_eq_false (p:=v.blocked.length≤100) (by omega)];simp
  | 3,_=>simp [Q5] at hh;rw [decide_eq_false (p:=v.source.length≤100) (by omega)];simp
 simp [f7,j4,k9,d7,f5,tx,j3,num,d9,elems,RV.one]
 refine y8 (X:=Nat) (fun i=>⟨D2 [(1,.ptr 1 0),(3,.own 13),(4,.val (num i))],D0 [(1,a0i v),(13,.row 9 1 ((Q5 v).map tx))]⟩) (fun i=>i≤4∧∀ x∈(Q5 v).take i,x.length≤100) (fun i=>4 - i) 0 (Le.mk _ _ ?_ ?_) ?_ ?_
 · simp [upd,num,tx,PV.kill]
 · simp [tx,num,a0i,Q5,MObj.kill]
 · simp
 · rintro i ⟨hi,hall⟩
   simp [num,tx,Q5]
   refine j7 (fun h1=>?_) (fun h1=>?_)
   · have hl:i < (Q5 v).length:=by simp [Q5];omega
     obtain ⟨x,hx⟩:∃ x,(Q5 v)[i]=x:=⟨_,rfl⟩
     have hlo:=hlong i hl
     rw [hx] at hlo
     have hget:(([tx v.document,tx v.referrer,tx v.blocked,tx v.source]:List RV)[i]?)=some (tx x):=by
      have:([tx v.document,tx v.referrer,tx v.blocked,tx v.source]:List RV)=(Q5 v).map tx:=rfl
      rw [this,List.getElem?_map,List.getElem?_eq_getElem hl,hx];rfl
     simp only [tx] at hget
     have wi:IntKind.i64.wrap ((i:Int)+1)=((i+1:Nat):Int):=by rw [wrap_i64 (by omega) (by omega)];omega
     simp [num,tx,h1,hget,b7]
     refine ⟨by omega,j7 (fun h2=>?_) (fun h2=>?_)⟩
     · obtain rfl:r=false:=by rw [← hr,hlo (by omega)]
       simp
     · simp
       refine LoopNext.mk (i+1) ⟨by omega,?_⟩ (by omega) (Le.mk _ _ ?_ ?_)
       · intro y hy
         rw [List.take_add_one,List.getElem?_eq_getElem hl,hx] at hy
         rcases List.mem_append.1 hy with hy | hy
         · exact hall y hy
         · rw [Option.toList_some,List.mem_singleton] at hy;subst hy;omega
       · simp [num,wi]
       · simp [a0i,tx,num,Q5]
   · have e:i=4:=by omega
     subst e
     have ht:(Q5 v).take 4=Q5 v:=rfl
     rw [ht] at hall
     have a1:=hall v.document (by simp [Q5])
     have a2:=hall v.referrer (by simp [Q5])
     have a3:=hall v.blocked (by simp [Q5])
     have a4:=hall v.source (by simp [Q5])
     have hr':(R3 v.directive && decide (v.sample.length≤200) && decide (0≤v.line∧v.line≤9999) && decide (0≤v.column∧v.column≤9999))=r:=by
      rw [← hr];unfold a36;simp only [a1,a2,a3,a4,decide_true,Bool.true_and]
     clear hr hlong hall
     simp [num,tx,a0i]
     refine b8 rfl rfl (.inl rfl) (b7i v.directive (by omega)) ?_
     cases hn:R3 v.directive with
     | false=>
      obtain rfl:r=false:=by rw [← hr',hn];rfl
      simp [num,tx,a0i]
     | true=>
      rw [hn] at hr'
      by_cases h200:v.sample.length≤200
      · rw [decide_eq_true h200] at hr'
        have h200':(v.sample.length:Int)≤200:=by omega
        simp [num,tx,a0i,b7,h200']
        refine b8 rfl rfl (.inl rfl) (a2v .i64 v.line 0 9999) ?_
        by_cases hL:0≤v.line∧v.line≤9999
        · rw [decide_eq_true hL] at hr' ⊢
          simp [num,tx,a0i]
          refine b8 rfl rfl (.inl rfl) (a2v .i64 v.column 0 9999) ?_
          simp only [Bool.true_and] at hr'
          rw [hr']
          simp [num,tx,a0i]
        · rw [decide_eq_false hL] at hr' ⊢
          obtain rfl:r=false:=by rw [← hr'];rfl
          simp [num,tx,a0i]
      · have h200':¬ (v.sample.length:Int)≤200:=by omega
        obtain rfl:r=false:=by rw [← hr',decide_eq_false h200];rfl
        simp [num,tx,a0i,b7,h200']
theorem a15 {st:St} {s id:Nat} {j:LJson} {cs:List PV} (h1:st.env s=.ptr id 0) (h2:st.mem id=.box cs) (h3:PV.plL (PV.frzL (Y7 st fun _=>true) cs)=(S2 j).cells.map .val):J8 [.c s true 5] st.fin=some (.val (S2 j)):=by
 obtain ⟨k,n,t,ns,is⟩:=j
 rw [o6] at h3 ⊢
 refine (resP_cz (id:=id) (n:=5) (cs:=cs) (rs:=[num k,num n,tx t,.list 1 (ns.map tx),.list 5 (is.map S2)]) h1 h2 h3 rfl (by omega)).trans ?_
 simp [l4,d9]
theorem a07 (t:Tx):f9 Tryz.prog 167 [.val (tx t)] (.ret (.val (S2 (jt t))) []) []:=by
 refine f8 mixed ok167 rfl (fun _=>rfl) ?_
 unfold ir167
 rw [d8]
 simp [f7,j4,k9,d7,f5,tx,num]
 refine a15 (id:=2) (cs:=[.val (num 4),.val (num 0),.val (tx t),.emp 1,.emp 5]) ?_ ?_ ?_
 · simp
 · simp [tx,num]
 · simp [PV.frzL,PV.frz,PV.plL,PV.pl,Y7,jt,o6,tx,num]
theorem b3g (n:Int):f9 Tryz.prog 169 [.val (num n)] (.ret (.val (S2 (jn n))) []) []:=by
 refine f8 mixed ok169 rfl (fun _=>rfl) ?_
 unfold ir169
 rw [d8]
 simp [f7,j4,k9,d7,f5,tx,num]
 refine a15 (id:=2) (cs:=[.val (num 3),.val (num n),.val (tx []),.emp 1,.emp 5]) ?_ ?_ ?_
 · simp
 · simp [tx,num,bs]
 · simp [PV.frzL,PV.frz,PV.plL,PV.pl,Y7,jn,o6,tx,num,bs]
theorem a9e (v:LViolation) (h:VOK v) (st:St) (e1:st.env 1=.ptr 1 0) (e2:st.env 2=.ptr 2 0) (e3:st.env 3=.ptr 3 0) (e4:st.env 4=.val (tx (v.sample.take 40))) (m1:st.mem 1=a0i v)
 (m2:st.mem 2=.box [.val (num 0),.val (num 0),.val (tx []),.emp 1,.emp 5]) (m3:st.mem 3=.box [.val (num 6),.val (num 0),.val (tx []),.own 5,.emp 5]) (m5:st.mem 5=.row 9 1 (bNames.map tx)) :
 EC Tryz.prog ir111_from4 st (K:=⟨Z6 [.c 2 true 5] (.val (S2 (b2s v)))⟩):=by
 obtain ⟨h1,h2,h3,h4,h5,h5',h6,h7,h8⟩:=h
 unfold ir111_from4
 simp [e1,e2,e3,e4,m1,m2,m3,m5,a0i,tx,num,d9]
 refine j6 rfl rfl (.inl rfl) (b1s v (by omega)) ?_
 simp [e1,e2,e3,e4,m1,m2,m3,m5,a0i,tx,num,d9]
 refine j6 rfl rfl (.inl rfl) (a07 (a0m v)) ?_
 simp [e1,e2,e3,e4,m1,m2,m3,m5,a0i,tx,num,d9]
 refine j6 rfl rfl (.inl rfl) (b3g v.column) ?_
 simp [e1,e2,e3,e4,m1,m2,m3,m5,a0i,tx,num,d9]
 refine j6 rfl rfl (.inl rfl) (a1h v.document (by omega)) ?_
 simp [e1,e2,e3,e4,m1,m2,m3,m5,a0i,tx,num,d9]
 refine j6 rfl rfl (.inl rfl) (a07 (W1 v.document)) ?_
 simp [e1,e2,e3,e4,m1,m2,m3,m5,a0i,tx,num,d9]
 refine j6 rfl rfl (.inl rfl) (a07 v.directive) ?_
 simp [e1,e2,e3,e4,m1,m2,m3,m5,a0i,tx,num,d9]
 refine j6 rfl rfl (.inl rfl) (b3g v.line) ?_
 simp [e1,e2,e3,e4,m1,m2,m3,m5,a0i,tx,num,d9]
 refine j6 rfl rfl (.inl rfl) (a1h v.referrer (by omega)) ?_
 simp [e1,e2,e3,e4,m1,m2,m3,m5,a0i,tx,num,d9]
 refine j6 rfl rfl (.inl rfl) (a07 (W1 v.referrer)) ?_
 simp [e1,e2,e3,e4,m1,m2,m3,m5,a0i,tx,num,d9]
 refine j6 rfl rfl (.inl rfl) (a07 (v.sample.take 40)) ?_
 simp [e1,e2,e3,e4,m1,m2,m3,m5,a0i,tx,num,d9]
 refine j6 rfl rfl (.inl rfl) (b3f v (by omega) (by omega)) ?_
 simp [e1,e2,e3,e4,m1,m2,m3,m5,a0i,tx,num,d9]
 refine j6 rfl rfl (.inl rfl) (a07 (a1p v)) ?_
 simp [e1,e2,e3,e4,m1,m2,m3,m5,a0i,tx,num,d9,elems,jt,jn,o6,RV.one,PV.kill,PV.killL]
 refine a15 (id:=2) (cs:=[.val (num 6),.val (num 0),.val (tx []),.own 5,.own 39]) ?_ ?_ ?_
 · simp [e2]
 · simp [tx,num]
 · simp [PV.frzL,PV.frz,PV.plL,PV.pl,Y7,b2s,b5e,jt,jn,o6,tx,num,m5,B8,J2,C0,J0,C1,x3,B9,J1,p7,D9,L6,L7,l3,w7,w8,o2,C2,x2,o4,I9,B7,x1,w9,H0,H1,a4s,a4t,Option.getD_some,Option.getD_none,F7,x8,u7,G7,u6,u0,G9,u1,G8,G6,G5,M1,A7,u4,G3,A5,u3,G2,F5,G4,A6,G0,t8,A4,G1,M3,M2,F6,F8,u2,F9,A8,u5,E5,p9,F4,F3,F2,L8,A2,q8,F0,A0,q7,E9,E3,F1,A1,E7,p8,z8,E8,M0,L9,E4,z7,s9,E6,A3,q9,O0,N9,P1,O1,O5,O3,O2,P0,O4,O6,O7,O8,O9,C5,C4,C3,R8,R9,n5,J3,y0,H5,B0,P3,x6,X7,S3,K2,T6,T8,T7,X8,X9,N2,N4,N3,N5,N6,T3,B2,T2,H7,H8,H9,B3,a42,I6,B6,X5,X6,M4,S0,S1,Option.map_some,Option.map_none,I0,B4,A9,u9,H3,H4,M6,M5,U3,U2,N8,I7,I8,N7,T9,U0,M8,v8,M9,v7,S8,I5,I4,o3,T5,U1,N1,S9,T1,T0,B1,D6,D8,D7,n6,T4,Y1,Y0,S6,N0,a1f,S7,w6,I2,I3,B5,I1,o1,y9,n8,z6,n7,P2,U5,U6,C6,C7,J5,J4,H2]
theorem b7h (v:LViolation) (h:VOK v):f9 Tryz.prog 111 [.val (j3 v)] (.ret (.val (S2 (b2s v))) []) []:=by
 refine f8 mixed ok111 rfl (fun _=>rfl) ?_
 unfold ir111
 rw [d8]
 simp [f7,j4,k9,d7,f5,tx,num,j3,elems,d9,RV.one,b7,PV.kill,PV.killL]
 refine j7 (fun h1=>?_) (fun h1=>?_)
 · simp [tx,num,b7,l6]
   refine ⟨by omega,?_⟩
   refine a9e v h _ ?_ ?_ ?_ ?_ ?_ ?_ ?_ ?_
   all_goals simp [tx,num,a0i,bNames,bs,MObj.kill,PV.kill,PV.killL]
 · simp [tx,num,b7,l6]
   refine a9e v h _ ?_ ?_ ?_ ?_ ?_ ?_ ?_ ?_
   all_goals simp [tx,num,a0i,bNames,bs,MObj.kill,PV.kill,PV.killL]
   exact (List.take_of_length_le (by omega)).symm
end
end Go.Proofs
end
section
namespace Go.Proofs
open Go.PW Go.KP
attribute [local simp] RV.cells RV.one PV.cells PV.solid PV.one o9 d9 l4 l0 RV.ofCells elems PV.killL
section
variable [GH]
def a1a (u:LUrl):LUrl:=⟨u.scheme,[],u.host,u.port,[],[],[],false,false⟩
theorem a8s (u:LUrl) (ht:u.Tiny):f9 Tryz.prog 254 [.val (p6 u)] (.ret (.val (tx (M7 (a1a u)))) []) []:=by
 obtain ⟨t1,t2,t3,t4,t5,t6,t7⟩:=ht
 have hs:(a1a u).Small:=⟨by simp [a1a];omega,by simp [a1a],by simp [a1a];omega,by simp [a1a],by simp [a1a],by simp [a1a],by simp [a1a];omega⟩
 refine f8 mixed ok254 rfl (fun _=>rfl) ?_
 unfold ir254
 rw [d8]
 simp [f7,j4,k9,d7,f5,tx,num,p6,d9]
 have hT:=b4t (a1a u) hs (by simp [a1a];omega)
 rw [a8o (by simp [a1a];omega)] at hT
 refine b8 rfl rfl (.inl rfl) hT ?_
 simp [tx]
theorem b56 (u:LUrl) (ht:u.Tiny):f9 Tryz.prog 221 [.val (p6 u)] (.ret (.val (tx (a57 u))) []) []:=by
 have hs:=a5f (b0u ht).small
 refine f8 mixed ok221 rfl (fun _=>rfl) ?_
 unfold ir221
 rw [d8]
 unfold a57
 simp [f7,j4,k9,d7,f5,tx,num,p6,d9]
 refine b8 rfl rfl (.inl rfl) (a8r u) ?_
 cases hw:K7 u.scheme with
 | false=>simp [tx]
 | true=>
  simp [d9]
  have hp:0≤(a2l u).port:=ht.2.2.2.2.2.2.1
  have hT:=b4t (a2l u) hs (by omega)
  rw [a8o hp] at hT
  refine b8 rfl rfl (.inl rfl) hT ?_
  simp [tx]
theorem a3g (t:Tx) (ht:t.length≤65536):f9 Tryz.prog 175 [.val (tx t)] (.ret (.val (tx (W1 t))) []) []:=by
 refine f8 mixed ok175 rfl (fun _=>rfl) ?_
 unfold ir175
 rw [d8]
 have hti:=a1q (t:=t) (by omega)
 have hp:=b4w t (by omega)
 unfold W1
 unfold a6c at hp
 rw [if_pos ht] at hp
 generalize o0 t=r at *
 obtain ⟨u,b⟩:=r
 simp only at hti hp ⊢
 simp [f7,j4,k9,d7,f5,tx]
 refine W9 rfl rfl (fun _=>rfl) rfl (.inl rfl) hp ?_
 cases b with
 | false=>simp [a7n,p6,tx,num,bs]
 | true=>
  simp [a7n,p6,tx,num,d9]
  refine b8 rfl rfl (.inl rfl) (b56 u hti) ?_
  simp [tx]
theorem b4j {u:LUrl} (hw:K7 u.scheme=true):M7 (a1a u)=a0w u:=by
 unfold M7 a0w a1a
 simp [hw]
theorem b81 (t:Tx) (ht:t.length < 1048577):f9 Tryz.prog 220 [.val (tx t)] (.ret (.val (tx (a58 t))) []) []:=by
 refine f8 mixed ok220 rfl (fun _=>rfl) ?_
 unfold ir220
 rw [d8]
 have hti:=a1q (t:=t) (by omega)
 have hp:=a7k t (by omega)
 unfold a58
 generalize o0 t=r at *
 obtain ⟨u,b⟩:=r
 simp only at hti ⊢
 simp [f7,j4,k9,d7,f5,tx]
 refine W9 rfl rfl (fun _=>rfl) rfl (.inl rfl) hp ?_
 simp [U7,p6,tx,num]
 cases b with
 | false=>simp [tx,bs]
 | true=>
  simp [d9]
  refine b8 rfl rfl (.inl rfl) (a8r u) ?_
  cases hw:K7 u.scheme with
  | false=>simp [tx,bs]
  | true=>
   simp [d9]
   have hO:=a8s u hti
   rw [b4j hw] at hO
   refine b8 rfl rfl (.inl rfl) hO ?_
   simp [tx]
theorem b1n (a b:LUrl) (ha:n0 a=true) (hb:n0 b=true) (ta:a.Tiny) (tb:b.Tiny):f9 Tryz.prog 222 [.val (p6 a),.val (p6 b)] (.ret (.val (.bool (a3b a b))) []) []:=by
 have k1:=a7l a (b0u ta)
 have k2:=a7l b (b0u tb)
 rw [ha] at k1
 rw [hb] at k2
 refine f8 mixed ok222 rfl (fun _=>rfl) ?_
 unfold ir222
 rw [d8,b2m ha hb]
 simp [f7,j4,k9,d7,f5,tx,num,p6,d9]
 refine j6 rfl rfl (.inl rfl) k1 ?_
 simp [d9]
 refine j6 rfl rfl (.inl rfl) k2 ?_
 simp [d9]
 refine j6 rfl rfl (.inl rfl) (a8r a) ?_
 cases wa:K7 a.scheme with
 | false=>simp
 | true=>
  simp [d9]
  refine j6 rfl rfl (.inl rfl) (a8r b) ?_
  cases wb:K7 b.scheme with
  | false=>simp
  | true=>
   simp [d9]
   refine j6 rfl rfl (.inl rfl) (a8s a ta) ?_
   simp [d9]
   refine j6 rfl rfl (.inl rfl) (a8s b tb) ?_
   simp [tx,l5,a1a]
theorem b66 (v:LViolation) (h:v.blocked.length≤100):f9 Tryz.prog 173 [.val (j3 v)] (.ret (.val (tx (a0m v))) []) []:=by
 refine f8 mixed ok173 rfl (fun _=>rfl) ?_
 unfold ir173
 rw [d8]
 have hS:=a3g v.blocked (by omega)
 have hT:=b81 v.blocked (by omega)
 unfold a0m
 obtain ⟨b,hbk⟩:∃ b,v.blocked=b:=⟨_,rfl⟩
 rw [hbk] at hS hT ⊢
 simp [f7,j4,k9,d7,f5,tx,j3,num,a3q,l5,hbk]
 by_cases h1:b=[105,110,108,105,110,101]
 · simp [tx,h1,a2x]
 by_cases h2:b=[101,118,97,108]
 · simp [tx,h2,a2x,a3q,l5]
 by_cases h3:b=[115,101,108,102]
 · simp [tx,h3,a2x,a3q,l5]
 have hn:b∉a2x:=by simp [a2x,h1,h2,h3]
 rw [if_neg hn]
 have c1:(b == [105,110,108,105,110,101])=false:=by simp [h1]
 have c2:(b == [101,118,97,108])=false:=by simp [h2]
 have c3:(b == [115,101,108,102])=false:=by simp [h3]
 cases h4:v.redirected with
 | true=>
  simp [tx,a3q,l5,h1,h2,h3,h4,c1,c2,c3]
  refine b8 rfl rfl (.inl rfl) hT ?_
  simp [tx]
 | false=>
  simp [tx,a3q,l5,h1,h2,h3,h4,c1,c2,c3]
  refine b8 rfl rfl (.inl rfl) hS ?_
  simp [tx]
theorem b80 (v:LViolation) (h1:v.source.length < 1048577) (h2:v.document.length < 1048577):f9 Tryz.prog 176 [.val (j3 v)] (.ret (.val (tx (a1p v))) []) []:=by
 refine f8 mixed ok176 rfl (fun _=>rfl) ?_
 unfold ir176
 rw [d8]
 have hta:=a1q (t:=v.source) (by omega)
 have htb:=a1q (t:=v.document) (by omega)
 have hoa:=fun h=>b0e (t:=v.source) h
 have hob:=fun h=>b0e (t:=v.document) h
 have hp:=a7k v.source (by omega)
 have hq:=a7k v.document (by omega)
 have hsi:=b81 v.source h1
 unfold a1p
 generalize o0 v.source=r at *
 generalize o0 v.document=s at *
 obtain ⟨u,b⟩:=r
 obtain ⟨u',b'⟩:=s
 simp only at hta htb hoa hob ⊢
 simp [f7,j4,k9,d7,f5,tx,j3,num]
 refine W9 rfl rfl (fun _=>rfl) rfl (.inl rfl) hp ?_
 simp [U7,p6,tx,num]
 refine W9 rfl rfl (fun _=>rfl) rfl (.inl rfl) hq ?_
 simp [U7,p6,tx,num]
 cases b with
 | false=>
  simp [tx]
  refine b8 rfl rfl (.inl rfl) hsi ?_
  simp [tx]
 | true=>
  cases b' with
  | false=>
   simp [tx]
   refine b8 rfl rfl (.inl rfl) hsi ?_
   simp [tx]
  | true=>
   simp [tx,d9]
   refine b8 rfl rfl (.inl rfl) (b1n u u' (hoa rfl) (hob rfl) hta htb) ?_
   cases ho:a3b u u' with
   | false=>
    simp [tx]
    refine b8 rfl rfl (.inl rfl) hsi ?_
    simp [tx]
   | true=>
    simp [tx,d9]
    refine b8 rfl rfl (.inl rfl) (b56 u hta) ?_
    simp [tx]
theorem max4_le (a b c d:Nat):(b2l a b c d≤100)↔(a≤100∧b≤100∧c≤100∧d≤100):=by
 unfold b2l
 dsimp only
 repeat' split
 all_goals omega
theorem a9w (v:LViolation) (hb:C9 1048576 v):f9 Tryz.prog 112 [.val (j3 v)] (.ret (.val (.bool (a36 v))) []) []:=by
 obtain ⟨b1,b2,b3,b4,b5,b6⟩:=hb
 have e0:a36 v=(decide (v.document.length≤100∧v.referrer.length≤100∧v.blocked.length≤100∧v.source.length≤100) && (R3 v.directive && decide (v.sample.length≤200) && decide (0≤v.line∧v.line≤9999) && decide (0≤v.column∧v.column≤9999))):=by
  unfold a36
  simp only [Bool.decide_and,Bool.and_assoc]
 refine f8 mixed ok112 rfl (fun _=>rfl) ?_
 unfold ir112
 rw [d8,e0]
 have hm:=max4_le v.document.length v.referrer.length v.blocked.length v.source.length
 simp [f7,j4,k9,d7,f5,tx,j3,num,b7]
 generalize b2l (v.document.length:Nat) (v.referrer.length:Nat) (v.blocked.length:Nat) (v.source.length:Nat)=m at hm ⊢
 by_cases hM:m≤100
 · have hM':=hm.1 hM
   rw [decide_eq_true hM']
   simp [tx,num,b7,hM]
   refine b8 rfl rfl (.inl rfl) (b83 v.directive (by omega)) ?_
   cases hn:R3 v.directive with
   | false=>simp [num,tx]
   | true=>
    by_cases h200:v.sample.length≤200
    · rw [decide_eq_true h200]
      have h200':(v.sample.length:Int)≤200:=by omega
      simp [num,tx,b7,h200']
      refine b8 rfl rfl (.inl rfl) (a1d v.line 0 9999) ?_
      by_cases hL:0≤v.line∧v.line≤9999
      · rw [decide_eq_true hL]
        simp [num,tx]
        refine b8 rfl rfl (.inl rfl) (a1d v.column 0 9999) ?_
        simp [num,tx]
      · rw [decide_eq_false hL]
        simp [num,tx]
    · have h200':¬ (v.sample.length:Int)≤200:=by omega
      rw [decide_eq_false h200]
      simp [num,tx,b7,h200']
 · have hM':=fun h=>hM (hm.2 h)
   rw [decide_eq_false hM']
   simp [tx,num,b7,hM]
theorem a18 (t:Tx):f9 Tryz.prog 172 [.val (tx t)] (.ret (.val (S2 (jt t))) []) []:=by
 refine f8 mixed ok172 rfl (fun _=>rfl) ?_
 unfold ir172
 rw [d8]
 simp [f7,j4,k9,d7,f5,tx,num]
 refine a15 (id:=2) (cs:=[.val (num 4),.val (num 0),.val (tx t),.emp 1,.emp 5]) ?_ ?_ ?_
 · simp
 · simp [tx,num]
 · simp [PV.frzL,PV.frz,PV.plL,PV.pl,Y7,jt,o6,tx,num]
theorem a8t (n:Int):f9 Tryz.prog 174 [.val (num n)] (.ret (.val (S2 (jn n))) []) []:=by
 refine f8 mixed ok174 rfl (fun _=>rfl) ?_
 unfold ir174
 rw [d8]
 simp [f7,j4,k9,d7,f5,tx,num]
 refine a15 (id:=2) (cs:=[.val (num 3),.val (num n),.val (tx []),.emp 1,.emp 5]) ?_ ?_ ?_
 · simp
 · simp [tx,num,bs]
 · simp [PV.frzL,PV.frz,PV.plL,PV.pl,Y7,jn,o6,tx,num,bs]
end
end Go.Proofs
end
section
namespace Go.KP
structure LLf where
 kind:Int
 num:Int
 text:Tx
def LLf.j (x:LLf):LJson:=.mk x.kind x.num x.text [] []
def a1w (v:LViolation):List LLf:=[⟨4,0,a0m v⟩,⟨3,v.column,[]⟩,⟨4,0,W1 v.document⟩,⟨4,0,v.directive⟩,⟨3,v.line,[]⟩,⟨4,0,W1 v.referrer⟩,⟨4,0,v.sample.take 40⟩,⟨4,0,a1p v⟩]
theorem a97 (v:LViolation):b5e v=(a1w v).map LLf.j:=rfl
def a01 (k:Nat):LLf:=⟨(k:Nat),(k+1:Nat),lmk (k+2)⟩
def boC (v:LViolation):Int:=if a36 v then 0 else 1
def boK (v:LViolation):Int:=if a36 v then 6 else 0
def boN (v:LViolation):List Tx:=if a36 v then bNames else []
def boL (v:LViolation):List LLf:=if a36 v then a1w v else []
end Go.KP
namespace Go.Proofs
open Go.PW Go.KP
attribute [local simp] RV.cells RV.one PV.cells PV.solid PV.one o9 d9 l4 l0 RV.ofCells elems PV.killL
variable [GH]
def Q6 (x:LLf):RV:=.agg [num x.kind,num x.num,tx x.text,.list 1 [],.list 5 []]
theorem rv_leaf (x:LLf):S2 x.j=Q6 x:=by simp [LLf.j,o6,Q6]
theorem b6n (l:List LLf):(l.map LLf.j).map S2=l.map Q6:=by rw [List.map_map];exact List.map_congr_left fun x _=>rv_leaf x
def rvB (k:Int) (ns:List Tx) (l:List LLf):RV:=.agg [num k,num 0,tx [],.list 1 (ns.map tx),.list 5 (l.map Q6)]
def pvB (k:Int) (a b:Nat):PV:=.agg [.val (num k),.val (num 0),.val (tx []),.own a,.own b]
theorem i_bodyO (v:LViolation) (h:VOK v):f9 Tryz.prog 113 [.val (j3 v)] (.ret (pvB 6 0 1) [⟨9,1,bNames.map tx⟩,⟨81,5,(a1w v).map Q6⟩]) []:=by
 obtain ⟨h1,h2,h3,h4,h5,h5',h6,h7,h8⟩:=h
 refine b3d (mk:=fun a b=>pvB 6 a b) (r1:=⟨9,1,bNames.map tx⟩) (r2:=⟨81,5,(a1w v).map Q6⟩) mixed ok113 rfl (fun _=>rfl) ?_
 unfold ir113
 rw [d8]
 have hmin:(if (40:Int) < (v.sample.length:Int) then (40:Int) else (v.sample.length:Int))=((min v.sample.length 40:Nat):Int):=by split<;>omega
 have hle:min v.sample.length 40≤v.sample.length:=by omega
 have htk:v.sample.take (min v.sample.length 40)=v.sample.take 40:=by
  by_cases h:v.sample.length≤40
  · rw [Nat.min_eq_left h,List.take_of_length_le (Nat.le_refl _),List.take_of_length_le h]
  · rw [Nat.min_eq_right (by omega)]
 generalize hmm:min v.sample.length 40=mm at hmin hle htk
 simp [f7,j4,k9,d7,f5,tx,num,j3,elems,d9,RV.one,b7,l6,hmin,htk,hle,PV.kill,PV.killL]
 repeat' with_reducible apply And.intro
 all_goals
  refine b8 rfl rfl (.inl rfl) (b66 v (by omega)) ?_
  simp [tx,num,d9,elems,jt,jn,o6,RV.one,PV.kill,PV.killL]
  repeat' with_reducible apply And.intro
  all_goals
   refine b8 rfl rfl (.inl rfl) (a18 (a0m v)) ?_
   simp [tx,num,d9,elems,jt,jn,o6,RV.one,PV.kill,PV.killL]
   repeat' with_reducible apply And.intro
   all_goals
    refine b8 rfl rfl (.inl rfl) (a8t v.column) ?_
    simp [tx,num,d9,elems,jt,jn,o6,RV.one,PV.kill,PV.killL]
    repeat' with_reducible apply And.intro
    all_goals
     refine b8 rfl rfl (.inl rfl) (a3g v.document (by omega)) ?_
     simp [tx,num,d9,elems,jt,jn,o6,RV.one,PV.kill,PV.killL]
     repeat' with_reducible apply And.intro
     all_goals
      refine b8 rfl rfl (.inl rfl) (a18 (W1 v.document)) ?_
      simp [tx,num,d9,elems,jt,jn,o6,RV.one,PV.kill,PV.killL]
      repeat' with_reducible apply And.intro
      all_goals
       refine b8 rfl rfl (.inl rfl) (a18 v.directive) ?_
       simp [tx,num,d9,elems,jt,jn,o6,RV.one,PV.kill,PV.killL]
       repeat' with_reducible apply And.intro
       all_goals
        refine b8 rfl rfl (.inl rfl) (a8t v.line) ?_
        simp [tx,num,d9,elems,jt,jn,o6,RV.one,PV.kill,PV.killL]
        repeat' with_reducible apply And.intro
        all_goals
         refine b8 rfl rfl (.inl rfl) (a3g v.referrer (by omega)) ?_
         simp [tx,num,d9,elems,jt,jn,o6,RV.one,PV.kill,PV.killL]
         repeat' with_reducible apply And.intro
         all_goals
          refine b8 rfl rfl (.inl rfl) (a18 (W1 v.referrer)) ?_
          simp [tx,num,d9,elems,jt,jn,o6,RV.one,PV.kill,PV.killL]
          repeat' with_reducible apply And.intro
          all_goals
           refine b8 rfl rfl (.inl rfl) (a18 (v.sample.take 40)) ?_
           simp [tx,num,d9,elems,jt,jn,o6,RV.one,PV.kill,PV.killL]
           repeat' with_reducible apply And.intro
           all_goals
            refine b8 rfl rfl (.inl rfl) (b80 v (by omega) (by omega)) ?_
            simp [tx,num,d9,elems,jt,jn,o6,RV.one,PV.kill,PV.killL]
            repeat' with_reducible apply And.intro
            all_goals
             refine b8 rfl rfl (.inl rfl) (a18 (a1p v)) ?_
             simp [tx,num,d9,elems,jt,jn,o6,RV.one,PV.kill,PV.killL]
             repeat' with_reducible apply And.intro
             all_goals exact ⟨_,Le.forget rfl (fun x=>.refl _),11,37,by omega,by simp [J8,a5w,l4,d9,pvB,PV.kill,num,tx,a3q],by simp [bNames,tx,bs],by simp [a1w,Q6,tx,num]⟩
end Go.Proofs
end
section
namespace Go.Proofs
open Go.PW Go.KP
attribute [local simp] RV.cells RV.one PV.cells PV.solid PV.one o9 d9 l4 l0 RV.ofCells elems PV.killL
variable [GF]
theorem a91 (x:LViolation) (left:Int) (h0:0≤left) (h1:left≤1048576) (hx:C9 9223372036854775807 x):f9 Tryz.prog 50 [.val (j3 x),.val (num left)] (.ret (.val (num (cut left (a08 x)))) []) []:=by
 refine f8 mixed ok50 rfl (fun _=>rfl) ?_
 unfold ir50
 rw [d8]
 unfold C9 at hx
 obtain ⟨b0,b1,b2,b3,b4,b5⟩:=hx
 unfold a08
 have w0:IntKind.i64.wrap (left - ((x.document.length:Nat):Int))=left - ((x.document.length:Nat):Int):=wrap_i64 (by omega) (by omega)
 by_cases k0:left - ((x.document.length:Nat):Int) < 0
 · rw [a32 (by omega)]
   simp [f7,j4,k9,d7,f5,j3,tx,num,b7,d9,w0,k0]
 · skip
   have w1:IntKind.i64.wrap ((left - (x.document.length:Nat)) - ((x.referrer.length:Nat):Int))=(left - (x.document.length:Nat)) - ((x.referrer.length:Nat):Int):=wrap_i64 (by omega) (by omega)
   by_cases k1:(left - (x.document.length:Nat)) - ((x.referrer.length:Nat):Int) < 0
   · rw [a32 (by omega)]
     simp [f7,j4,k9,d7,f5,j3,tx,num,b7,d9,w0,w1,k0,k1]
   · skip
     have w2:IntKind.i64.wrap ((left - (x.document.length:Nat) - (x.referrer.length:Nat)) - ((x.blocked.length:Nat):Int))=(left - (x.document.length:Nat) - (x.referrer.length:Nat)) - ((x.blocked.length:Nat):Int):=wrap_i64 (by omega) (by omega)
     by_cases k2:(left - (x.document.length:Nat) - (x.referrer.length:Nat)) - ((x.blocked.length:Nat):Int) < 0
     · rw [a32 (by omega)]
       simp [f7,j4,k9,d7,f5,j3,tx,num,b7,d9,w0,w1,w2,k0,k1,k2]
     · skip
       have w3:IntKind.i64.wrap ((left - (x.document.length:Nat) - (x.referrer.length:Nat) - (x.blocked.length:Nat)) - ((x.source.length:Nat):Int))=(left - (x.document.length:Nat) - (x.referrer.length:Nat) - (x.blocked.length:Nat)) - ((x.source.length:Nat):Int):=wrap_i64 (by omega) (by omega)
       by_cases k3:(left - (x.document.length:Nat) - (x.referrer.length:Nat) - (x.blocked.length:Nat)) - ((x.source.length:Nat):Int) < 0
       · rw [a32 (by omega)]
         simp [f7,j4,k9,d7,f5,j3,tx,num,b7,d9,w0,w1,w2,w3,k0,k1,k2,k3]
       · skip
         have w4:IntKind.i64.wrap ((left - (x.document.length:Nat) - (x.referrer.length:Nat) - (x.blocked.length:Nat) - (x.source.length:Nat)) - ((x.directive.length:Nat):Int))=(left - (x.document.length:Nat) - (x.referrer.length:Nat) - (x.blocked.length:Nat) - (x.source.length:Nat)) - ((x.directive.length:Nat):Int):=wrap_i64 (by omega) (by omega)
         by_cases k4:(left - (x.document.length:Nat) - (x.referrer.length:Nat) - (x.blocked.length:Nat) - (x.source.length:Nat)) - ((x.directive.length:Nat):Int) < 0
         · rw [a32 (by omega)]
           simp [f7,j4,k9,d7,f5,j3,tx,num,b7,d9,w0,w1,w2,w3,w4,k0,k1,k2,k3,k4]
         · skip
           have w5:IntKind.i64.wrap ((left - (x.document.length:Nat) - (x.referrer.length:Nat) - (x.blocked.length:Nat) - (x.source.length:Nat) - (x.directive.length:Nat)) - ((x.sample.length:Nat):Int))=(left - (x.document.length:Nat) - (x.referrer.length:Nat) - (x.blocked.length:Nat) - (x.source.length:Nat) - (x.directive.length:Nat)) - ((x.sample.length:Nat):Int):=wrap_i64 (by omega) (by omega)
           by_cases k5:(left - (x.document.length:Nat) - (x.referrer.length:Nat) - (x.blocked.length:Nat) - (x.source.length:Nat) - (x.directive.length:Nat)) - ((x.sample.length:Nat):Int) < 0
           · rw [a32 (by omega)]
             simp [f7,j4,k9,d7,f5,j3,tx,num,b7,d9,w0,w1,w2,w3,w4,w5,k0,k1,k2,k3,k4,k5]
           · rw [cut_pos (by omega)]
             simp [f7,j4,k9,d7,f5,j3,tx,num,b7,d9,w0,w1,w2,w3,w4,w5,k0,k1,k2,k3,k4,k5]
             try omega
theorem a90 (x:LViolation) (hx:C9 1048576 x):f9 Tryz.prog 52 [.val (j3 x)] (.ret (.val (j3 x)) []) []:=by
 refine f8 mixed ok52 rfl (fun _=>rfl) ?_
 unfold ir52
 rw [d8]
 unfold C9 at hx
 obtain ⟨b0,b1,b2,b3,b4,b5⟩:=hx
 simp [f7,j4,k9,d7,f5,j3,tx,num,d9]
 refine (resP_c (id:=2) (n:=9) (rs:=[tx x.document,tx x.referrer,tx x.blocked,tx x.source,tx x.directive,tx x.sample,num x.line,num x.column,.bool x.redirected]) ?_ ?_ rfl (by omega)).trans ?_
 · simp
 · simp [tx,num]
 · simp [j3,tx,num,d9]
end Go.Proofs
end
section
namespace Go.Proofs
open Go.PW Go.KP
attribute [local simp] RV.cells RV.one PV.cells PV.solid PV.one o9 d9 l4 l0 RV.ofCells elems PV.killL
variable [GH]
theorem a92 (n:Int):f9 Tryz.prog 74 [.val (.list 1 []),.val (num n)] (.ret (.val (num n)) []) []:=by
 refine f8 mixed ok74 rfl (fun _=>rfl) ?_
 unfold ir74
 rw [d8]
 simp [f7,j4,k9,d7,f5,num]
 refine y8 (X:=Unit) (fun _=>⟨D2 [(0,.val (.list 1 [])),(1,.val (num n)),(5,.val (num 0))],D0 []⟩) (fun _=>True) (fun _=>0) () (Le.mk _ _ ?_ ?_) trivial ?_
 · simp [num,tx,PV.kill]
 · simp
 · rintro _ _
   unfold ir74_l6
   simp [num,tx]
theorem b28 (n:Int):f9 Tryz.prog 115 [.val (.list 5 []),.val (num n)] (.ret (.val (num n)) []) []:=by
 refine f8 mixed ok115 rfl (fun _=>rfl) ?_
 unfold ir115
 rw [d8]
 simp [f7,j4,k9,d7,f5,num]
 refine y8 (X:=Unit) (fun _=>⟨D2 [(0,.val (.list 5 [])),(1,.val (num n)),(5,.val (num 0))],D0 []⟩) (fun _=>True) (fun _=>0) () (Le.mk _ _ ?_ ?_) trivial ?_
 · simp [num,tx,PV.kill]
 · simp
 · rintro _ _
   unfold ir115_l6
   simp [num,tx]
theorem a93 (n:Int):f9 Tryz.prog 76 [.val (.list 1 []),.val (num n)] (.ret (.val (num n)) []) []:=by
 refine f8 mixed ok76 rfl (fun _=>rfl) ?_
 unfold ir76
 rw [d8]
 simp [f7,j4,k9,d7,f5,num]
 refine y8 (X:=Unit) (fun _=>⟨D2 [(0,.val (.list 1 [])),(1,.val (num n)),(5,.val (num 0))],D0 []⟩) (fun _=>True) (fun _=>0) () (Le.mk _ _ ?_ ?_) trivial ?_
 · simp [num,tx,PV.kill]
 · simp
 · rintro _ _
   unfold ir76_l6
   simp [num,tx]
theorem b29 (n:Int):f9 Tryz.prog 116 [.val (.list 5 []),.val (num n)] (.ret (.val (num n)) []) []:=by
 refine f8 mixed ok116 rfl (fun _=>rfl) ?_
 unfold ir116
 rw [d8]
 simp [f7,j4,k9,d7,f5,num]
 refine y8 (X:=Unit) (fun _=>⟨D2 [(0,.val (.list 5 [])),(1,.val (num n)),(5,.val (num 0))],D0 []⟩) (fun _=>True) (fun _=>0) () (Le.mk _ _ ?_ ?_) trivial ?_
 · simp [num,tx,PV.kill]
 · simp
 · rintro _ _
   unfold ir116_l6
   simp [num,tx]
theorem b4e {K:Kx (PExit→St→Prop)} (xs:List RV) (k i:Nat) (a0 a1 a2:RV) (hi:i < xs.length) (hk:k < 549755813888) (hl:xs.length < 1099511627776) (hx:xs[i]?.getD .nilptr=.agg [a0,a1,a2,.list 1 [],.list 5 []])
 (hn:∀ st':St,st'.env 0=.own 900→st'.env 1=.val (num ((k+3:Nat):Int))→st'.env 5=.val (num ((i+1:Nat):Int))→st'.mem 900=.row 81 5 (xs.set i (Q6 (a01 k)))→K.k .normal st') :
 EC Tryz.prog ir115_l6 ⟨D2 [(0,.own 900),(1,.val (num k)),(5,.val (num i))],D0 [(900,.row 81 5 xs)]⟩ (K:=K):=by
 unfold ir115_l6
 have s1:IntKind.i64.wrap ((k:Int)+1)=(k:Int)+1:=wrap_i64 (by omega) (by omega)
 have s2:IntKind.i64.wrap ((k:Int)+1+1)=(k:Int)+1+1:=wrap_i64 (by omega) (by omega)
 have c1:((k+1:Nat):Int)=(k:Int)+1:=by omega
 have s3:IntKind.i64.wrap ((k:Int)+1+1+1)=(k:Int)+1+1+1:=wrap_i64 (by omega) (by omega)
 have c2:((k+2:Nat):Int)=(k:Int)+1+1:=by omega
 have hmk2:f9 Tryz.prog 63 [.val (.int .i64 ((k:Int)+1+1))] (.ret (.val (.str (bs (lmk (k+2))))) []) []:=by
  have h:=a2t (k+2) (by omega)
  unfold num tx at h
  rwa [c2] at h
 have si:IntKind.i64.wrap ((i:Int)+1)=(i:Int)+1:=wrap_i64 (by omega) (by omega)
 have hx':xs[i]=.agg [a0,a1,a2,.list 1 [],.list 5 []]:=by rw [← hx];simp [List.getElem?_eq_getElem hi]
 simp [num,hi,hx,hx',s1,s2,s3]
 refine b8 rfl rfl (.inl rfl) hmk2 ?_
 simp [num,hi,hx,hx',tx,s1,s2,s3]
 refine b8 rfl rfl (.inl rfl) (a92 ((k:Int)+1+1+1)) ?_
 simp [num,hi,hx,hx',tx,s1,s2,s3]
 refine b8 rfl rfl (.inl rfl) (b28 ((k:Int)+1+1+1)) ?_
 simp [num,hi,hx,hx',tx,s1,s2,s3]
 refine hn _ ?_ ?_ ?_ ?_
 · simp
 · simp only [B8,J2,C0,J0,C1,x3,B9,J1,p7,D9,L6,L7,l3,w7,w8,o2,C2,x2,o4,I9,B7,x1,w9,H0,H1,a4s,a4t,Option.getD_some,Option.getD_none,F7,x8,u7,G7,u6,u0,G9,u1,G8,G6,G5,M1,A7,u4,G3,A5,u3,G2,F5,G4,A6,G0,t8,A4,G1,M3,M2,F6,F8,u2,F9,A8,u5,E5,p9,F4,F3,F2,L8,A2,q8,F0,A0,q7,E9,E3,F1,A1,E7,p8,z8,E8,M0,L9,E4,z7,s9,E6,A3,q9,O0,N9,P1,O1,O5,O3,O2,P0,O4,O6,O7,O8,O9,C5,C4,C3,R8,R9,n5,J3,y0,H5,B0,P3,x6,X7,S3,K2,T6,T8,T7,X8,X9,N2,N4,N3,N5,N6,T3,B2,T2,H7,H8,H9,B3,a42,I6,B6,X5,X6,M4,S0,S1,Option.map_some,Option.map_none,I0,B4,A9,u9,H3,H4,M6,M5,U3,U2,N8,I7,I8,N7,T9,U0,M8,v8,M9,v7,S8,I5,I4,o3,T5,U1,N1,S9,T1,T0,B1,D6,D8,D7,n6,T4,Y1,Y0,S6,N0,a1f,S7,w6,I2,I3,B5,I1,o1,y9,n8,z6,n7,P2,U5,U6,C6,C7,J5,J4,H2,n5,s1,s2,s3,num]
   simp
   try omega
 · simp [num,si]
 · simp [hi,hx,hx']
   try simp [s1,s2,s3,c1,c2,Q6,a01,num,tx]
theorem b21 (l:List LLf) (k:Nat) (hk:k < 8388608) (hl:l.length≤1048576):a5q Tryz.prog 115 (.own 0) 81 5 (l.map Q6) [.val (num k)] (num ((k+3*l.length:Nat):Int)) ((mkL a01 3 l.length k).map Q6):=by
 refine a88 mixed ok115 rfl ?_
 unfold ir115
 rw [d8]
 simp [f7,j4,k9,d7,f5,P4,PV.nm,num]
 refine y8 (X:=Nat) (fun i=>⟨D2 [(0,.own 900),(1,.val (num ((k+3*i:Nat):Int))),(5,.val (num i))],D0 [(900,.row 81 5 ((mkU a01 3 l k i).map Q6))]⟩) (fun i=>i≤l.length) (fun i=>l.length - i) 0 (Le.mk _ _ ?_ ?_) (Nat.zero_le _) ?_
 · simp [upd,num,PV.kill]
 · simp [b2i]
 · intro i hi
   have hml:=b5y a01 3 l k i hi
   by_cases h1:i < l.length
   · have hmi:i < (mkU a01 3 l k i).length:=by omega
     have hset:=b5x a01 3 l k i h1
     refine b4e ((mkU a01 3 l k i).map Q6) (k+3*i) i (num (mkU a01 3 l k i)[i].kind) (num (mkU a01 3 l k i)[i].num) (tx (mkU a01 3 l k i)[i].text) (by simpa using hmi) (by omega) (by simp;omega) (by simp [List.getElem?_eq_getElem hmi,Q6]) (fun st' q0 q1 q5 qm=>?_)
     simp
     refine LoopNext.mk (i+1) h1 (by omega) (Le.mk _ _ ?_ ?_)
     · simp [q0,q1,q5,num]
       omega
     · rw [← List.map_set,hset] at qm
       simp [qm]
   · have e:i=l.length:=by omega
     subst e
     unfold ir115_l6
     simp [num,hml,b5z,R1]
theorem b22 (n k:Nat) (hk:k < 8388608) (hl:n≤1048576):f9 Tryz.prog 116 [.val (.list 5 ((mkL a01 3 n k).map Q6)),.val (num k)] (.ret (.val (num ((k+3*n:Nat):Int))) []) []:=by
 refine f8 mixed ok116 rfl (fun _=>rfl) ?_
 unfold ir116
 rw [d8]
 have hlen:=R1 a01 3 n k
 simp [f7,j4,k9,d7,f5,num]
 refine y8 (X:=Nat) (fun i=>⟨D2 [(0,.val (.list 5 ((mkL a01 3 n k).map Q6))),(1,.val (num ((k+3*i:Nat):Int))),(5,.val (num i))],D0 []⟩) (fun i=>i≤n) (fun i=>n - i) 0 (Le.mk _ _ ?_ ?_) (Nat.zero_le _) ?_
 · simp [upd,num,PV.kill]
 · simp
 · intro i hi
   unfold ir116_l6
   by_cases h1:i < n
   · have hi':i < (mkL a01 3 n k).length:=by omega
     have hat:(mkL a01 3 n k)[i]=a01 (k+3*i):=b8g h1
     have e1:((mkL a01 3 n k).map Q6)[i]?.getD .nilptr=Q6 (a01 (k+3*i)):=by simp [List.getElem?_eq_getElem hi',hat]
     generalize hj:k+3*i=j at *
     have hjj:j < 1099511627776:=by omega
     have s1:IntKind.i64.wrap ((j:Int)+1)=((j+1:Nat):Int):=by rw [wrap_i64 (by omega) (by omega)];omega
     have s2:IntKind.i64.wrap (((j+1:Nat):Int)+1)=((j+2:Nat):Int):=by rw [wrap_i64 (by omega) (by omega)];omega
     have s3:IntKind.i64.wrap (((j+2:Nat):Int)+1)=((j+3:Nat):Int):=by rw [wrap_i64 (by omega) (by omega)];omega
     have si:IntKind.i64.wrap ((i:Int)+1)=((i+1:Nat):Int):=by rw [wrap_i64 (by omega) (by omega)];omega
     have hmk2:f9 Tryz.prog 63 [.val (.int .i64 ((j+2:Nat):Int))] (.ret (.val (.str (bs (lmk (j+2))))) []) []:=a2t (j+2) (by omega)
     have hj3:¬ ((j+3:Nat):Int) < 0:=by omega
     have hj4:¬ ((j:Int)+3 < 0):=by omega
     have hat2:a01 j=⟨(j:Int),((j+1:Nat):Int),lmk (j+2)⟩:=rfl
     generalize hj1:((j+1:Nat):Int)=j1 at *
     generalize hj2:((j+2:Nat):Int)=j2 at *
     simp [num,R1,h1,e1,hat,hat2,Q6,tx,s1,s2,s3,si]
     refine j6 rfl rfl (.inl rfl) hmk2 ?_
     simp [num,R1,h1,e1,hat,hat2,Q6,tx,s1,s2,s3,si]
     refine b8 rfl rfl (.inl rfl) (a93 ((j+3:Nat):Int)) ?_
     simp [num,R1,h1,e1,hat,hat2,Q6,tx,s1,s2,s3,si,hj3,hj4]
     refine b8 rfl rfl (.inl rfl) (b29 ((j+3:Nat):Int)) ?_
     simp [num,R1,h1,e1,hat,hat2,Q6,tx,s1,s2,s3,si,hj3,hj4]
     refine LoopNext.mk (i+1) h1 (by omega) (Le.mk _ _ ?_ ?_)
     · simp [num,s1,s2,s3,si]
       omega
     · simp
   · have e:i=n:=by omega
     subst e
     simp [num,R1]
theorem a95:f9 Tryz.prog 114 [.val (.list 5 []),.val (.list 5 [])] (.ret (.val (.bool true)) []) []:=by
 refine f8 mixed ok114 rfl (fun _=>rfl) ?_
 unfold ir114
 rw [d8]
 simp [f7,j4,k9,d7,f5,num]
 refine y8 (X:=Unit) (fun _=>⟨D2 [(0,.val (.list 5 [])),(1,.val (.list 5 [])),(5,.val (num 0))],D0 []⟩) (fun _=>True) (fun _=>0) () (Le.mk _ _ ?_ ?_) trivial ?_
 · simp [num,tx,PV.kill]
 · simp
 · rintro _ _
   simp [num,tx]
theorem b3a (k m:Int) (t:Tx) (ns:List Tx) (is:List RV) (hn:bdS 1048576 (fun t=>t.length≤1048576) ns) (hI:f9 Tryz.prog 114 [.val (.list 5 is),.val (.list 5 is)] (.ret (.val (.bool true)) []) []):f9 Tryz.prog 54 [.val (.agg [num k,num m,tx t,.list 1 (ns.map tx),.list 5 is]),.val (.agg [num k,num m,tx t,.list 1 (ns.map tx),.list 5 is])] (.ret (.val (.bool true)) []) []:=by
 refine f8 mixed ok54 rfl (fun _=>rfl) ?_
 unfold ir54
 rw [d8]
 simp [f7,j4,k9,d7,f5,num,tx]
 refine b8 rfl rfl (.inl rfl) (b24 ns hn) ?_
 simp [num,tx]
 refine b8 rfl rfl (.inl rfl) hI ?_
 simp [num,tx]
theorem a94 (x:LLf):f9 Tryz.prog 54 [.val (Q6 x),.val (Q6 x)] (.ret (.val (.bool true)) []) []:=
 b3a x.kind x.num x.text [] [] ⟨by simp,by simp⟩ a95
theorem b7b (l:List LLf) (hl:l.length≤1048576):f9 Tryz.prog 114 [.val (.list 5 (l.map Q6)),.val (.list 5 (l.map Q6))] (.ret (.val (.bool true)) []) []:=by
 refine f8 mixed ok114 rfl (fun _=>rfl) ?_
 unfold ir114
 rw [d8]
 simp [f7,j4,k9,d7,f5,num]
 refine y8 (X:=Nat) (fun i=>⟨D2 [(0,.val (.list 5 (l.map Q6))),(1,.val (.list 5 (l.map Q6))),(5,.val (num i))],D0 []⟩) (fun i=>i≤l.length) (fun i=>l.length - i) 0 (Le.mk _ _ ?_ ?_) (Nat.zero_le _) ?_
 · simp [upd,num,PV.kill]
 · simp
 · intro i hi
   by_cases h1:i < l.length
   · have e1:(l.map Q6)[i]?.getD .nilptr=Q6 l[i]:=by simp [List.getElem?_eq_getElem h1]
     have hC:=a94 l[i]
     have wi:IntKind.i64.wrap ((i:Int)+1)=((i+1:Nat):Int):=by rw [wrap_i64 (by omega) (by omega)];omega
     obtain ⟨x,hx⟩:∃ x,l[i]=x:=⟨_,rfl⟩
     rw [hx] at hC e1
     unfold Q6 at hC
     simp [num,h1,hx,e1,Q6,tx]
     refine b8 rfl rfl (.inl rfl) hC ?_
     simp [num]
     refine LoopNext.mk (i+1) h1 (by omega) (Le.mk _ _ ?_ ?_)
     · simp [num,wi]
     · simp
   · have e:i=l.length:=by omega
     subst e
     simp [num]
end Go.Proofs
end
section
namespace Go.Proofs
open Go.PW Go.KP
attribute [local simp] RV.cells RV.one PV.cells PV.solid PV.one o9 d9 l4 l0 RV.ofCells elems PV.killL
variable [GH]
theorem resJ5 {st:St} {s t:Nat} {a b:Int} {c:Tx} {x4 x5:PV} {r4 r5 r:RV} (h1:st.env s=.ptr s 0) (h2:st.mem s=.box [.val (num a),.val (num b),.val (tx c),x4,x5]) (h5:st.env t=.val r) (g4:(x4.frz (Y7 st fun _=>true)).pl=.val r4) (g5:(x5.frz (Y7 st fun _=>true)).pl=.val r5) :
 J8 [.c s true 5,.t t] st.fin=some (.tup [.val (.agg [num a,num b,tx c,r4,r5]),.val r]):=by
 have e1:st.fin.env s=.ptr s 0:=by rw [K2,h1];simp [PV.frz,Y7,h2,PV.pl]
 have e2:st.fin.mem s=.box [.val (num a),.val (num b),.val (tx c),.val r4,.val r5]:=by simp [St.fin,St.freeze,h2,MObj.pl,PV.frzL,PV.plL,g4,g5,PV.frz,PV.pl,num,tx]
 have e3:st.fin.env t=.val r:=by rw [K2,h5];rfl
 simp only [J8,a1o,a5w,e1,e2,e3]
 simp [l4,d9]
theorem b8q (v:LViolation):S2 (b2s v)=rvB 6 bNames (a1w v):=by
 unfold b2s rvB
 rw [o6,a97,b6n]
theorem b9h (v:LViolation) (hb:C9 1048576 v):f9 Tryz.prog 51 [.val (j3 v)] (.ret (.tup [.val (rvB (boK v) (boN v) (boL v)),.val (num (boC v))]) []) []:=by
 obtain ⟨Z,hZ⟩:∃ Z,Z6 [.c 2 true 5,.t 3] (.tup [.val (rvB (boK v) (boN v) (boL v)),.val (num (boC v))])=Z:=⟨_,rfl⟩
 refine f8 mixed ok51 rfl (fun _=>rfl) ?_
 rw [hZ]
 unfold ir51
 rw [d8]
 simp [f7,j4,k9,d7,f5,tx,num,j3,d9]
 refine b8 rfl rfl (.inl rfl) (c_l05OK v hb) ?_
 cases h:a36 v with
 | false=>
  simp [tx,num,PV.kill,PV.killL]
  rw [← hZ]
  unfold boK boN boL boC
  simp only [h]
  simp
  exact resJ5 (a:=0) (b:=0) (c:=[]) (x4:=.emp 1) (x5:=.emp 5) (by simp) (by simp [num,tx,a3q]) (by simp [num]) rfl rfl
 | true=>
  have hB:=b7h v (b7w h)
  rw [b8q] at hB
  unfold rvB at hB
  simp [tx,num,d9,PV.kill,PV.killL]
  refine b8 rfl rfl (.inl rfl) hB ?_
  simp [tx,num,d9,PV.kill,PV.killL]
  rw [← hZ]
  unfold boK boN boL boC
  simp only [h]
  simp
  exact resJ5 (a:=6) (b:=0) (c:=[]) (x4:=.val (.list 1 (bNames.map tx))) (x5:=.val (.list 5 ((a1w v).map Q6))) (by simp) (by simp [num,tx,a3q]) (by simp [num]) rfl rfl
theorem retJz {st:St} (h1:st.env 2=.ptr 2 0) (h2:st.mem 2=.box [.val (num 0),.val (num 0),.val (tx []),.emp 1,.emp 5]) (h5:st.env 3=.val (num 1)) :
 b3q [.c 2 true 5,.t 3] (fun a b=>.tup [pvB 0 a b,.val (num 1)]) ⟨9,1,[]⟩ ⟨81,5,[]⟩ .ret st:=by
 have f1:R4 600:=.inl (by omega)
 have f2:R4 601:=.inl (by omega)
 have a1:=Le.adoptBox (st:=st) 2 600 9 1 [.val (num 0),.val (num 0),.val (tx []),.emp 1,.emp 5] [.val (num 0),.val (num 0),.val (tx []),.own 600,.emp 5] (by omega) f1 (by omega) h2 rfl (fun j hj=>by
  have:j=0∨j=1∨j=2∨j=3∨j=4:=by simp at hj;omega
  rcases this with rfl | rfl | rfl | rfl | rfl
  · exact .kill (.val _)
  · exact .kill (.val _)
  · exact .kill (.val _)
  · exact .emp 1
  · exact .kill (.emp 5))
 have a2:=Le.adoptBox (st:=⟨fun x=>(st.env x).kill (· == 600),upd 600 (.row 9 1 []) (upd 2 (.box [.val (num 0),.val (num 0),.val (tx []),.own 600,.emp 5]) fun i=>(st.mem i).kill (· == 600))⟩) 2 601 81 5 [.val (num 0),.val (num 0),.val (tx []),.own 600,.emp 5] [.val (num 0),.val (num 0),.val (tx []),.own 600,.own 601] (by omega) f2 (by omega) (by simp [upd]) rfl (fun j hj=>by
  have:j=0∨j=1∨j=2∨j=3∨j=4:=by simp at hj;omega
  rcases this with rfl | rfl | rfl | rfl | rfl
  · exact .kill (.val _)
  · exact .kill (.val _)
  · exact .kill (.val _)
  · exact .kill (.own 600)
  · exact .emp 5)
 refine ⟨_,a1.trans a2,600,601,by omega,?_,by simp [upd,MObj.kill],by simp [upd]⟩
 simp [J8,a1o,a5w,upd,h1,h5,l4,d9,PV.kill,pvB]
theorem b85 (v:LViolation) (hb:C9 1048576 v):f9 Tryz.prog 53 [.val (j3 v)] (.ret (.tup [pvB (boK v) 0 1,.val (num (boC v))]) [⟨9,1,(boN v).map tx⟩,⟨81,5,(boL v).map Q6⟩]) []:=by
 obtain ⟨Z,hZ⟩:∃ Z,b3q [.c 2 true 5,.t 3] (fun a b=>.tup [pvB (boK v) a b,.val (num (boC v))]) ⟨9,1,(boN v).map tx⟩ ⟨81,5,(boL v).map Q6⟩=Z:=⟨_,rfl⟩
 refine b3d (mk:=fun a b=>.tup [pvB (boK v) a b,.val (num (boC v))]) (r1:=⟨9,1,(boN v).map tx⟩) (r2:=⟨81,5,(boL v).map Q6⟩) mixed ok53 rfl (fun _=>rfl) ?_
 rw [hZ]
 unfold ir53
 rw [d8]
 simp [f7,j4,k9,d7,f5,tx,num,j3,d9]
 refine b8 rfl rfl (.inl rfl) (a9w v hb) ?_
 cases h:a36 v with
 | false=>
  simp [tx,num,PV.kill,PV.killL]
  rw [← hZ]
  unfold boK boN boL boC
  simp only [h]
  exact retJz (by simp) (by simp [num,tx,a3q]) (by simp [num])
 | true=>
  have hB:=i_bodyO v (b7w h)
  simp [tx,num,d9,PV.kill,PV.killL]
  refine a6f rfl rfl rfl rfl hB ?_
  simp [tx,num,d9,PV.kill,PV.killL,PV.shift,PV.shiftL,l1,pvB]
  rw [← hZ]
  unfold boK boN boL boC
  simp only [h]
  exact ⟨_,Le.refl _,10000,10001,by omega,by simp [J8,a1o,a5w,l4,d9,pvB,PV.kill,num,tx,a3q],by simp,by simp⟩
def jxM (a b:List RV) (j:Nat):MObj:=if j=0 then .row 9 1 a else .row 81 5 b
theorem b4f (q:Int) (ns:List Tx) (l:List LLf) (k:Nat) (h1:ns.length≤1048576) (h2:l.length≤1048576) (hk:k < 1048576):a5r Tryz.prog 55 [.agg [.val (num q),.val (num 0),.val (tx []),.own 900,.own 901],.val (num k)] (V5 2 (jxM (ns.map tx) (l.map Q6))) (a0g 2)
 (.val (num ((k+ns.length+3*l.length:Nat):Int))) (V5 2 (jxM ((mkL lmk 1 ns.length k).map tx) ((mkL a01 3 l.length (k+ns.length)).map Q6))):=by
 have hin:∀ (O:Nat→MObj) i,(V5 2 O i).live=true→900≤i∧i < 902:=fun O i hi=>by
  unfold V5 at hi;split at hi
  · omega
  · cases hi
 have q1:=a9y ns k (by omega) h1
 have q2:=b21 l (k+ns.length) (by omega) h2
 rw [Nat.one_mul] at q1
 obtain ⟨a1,e1⟩:∃ x,(mkL lmk 1 ns.length k).map tx=x:=⟨_,rfl⟩
 obtain ⟨a2,e2⟩:∃ x,(mkL a01 3 l.length (k+ns.length)).map Q6=x:=⟨_,rfl⟩
 rw [e1] at q1 ⊢
 rw [e2] at q2 ⊢
 obtain ⟨k2,f2⟩:∃ m,k+ns.length+3*l.length=m:=⟨_,rfl⟩
 obtain ⟨k1,f1⟩:∃ m,k+ns.length=m:=⟨_,rfl⟩
 rw [f2] at q2 ⊢
 rw [f1] at q1 q2
 refine b9d mixed ok55 (fun i hi=>?_) (fun i hi=>?_) ?_
 · have:=hin _ i hi
   simp [okId];omega
 · unfold a0g at hi
   simp at hi
   refine ⟨by omega,?_⟩
   unfold V5
   rw [if_pos (by omega)]
   unfold jxM
   split<;>rfl
 unfold ir55
 rw [d8]
 simp [num,tx,V5,jxM]
 refine rowC (by simp [PV.plain1]) rfl rfl rfl q1 rfl ?_
 simp [num,tx,V5,jxM]
 refine rowC (by simp [PV.plain1]) rfl rfl rfl q2 rfl ?_
 simp [num,tx,V5,jxM]
 refine ⟨_,Le.refl _,fun i=>i,by simp [J8,a5w,num,PV.ren],Named.same (fun j hj=>?_) (fun j hj=>?_)⟩
 · have:=hin _ j hj
   have:j=900∨j=901:=by omega
   rcases this with rfl | rfl<;>simp [V5,jxM]
 · unfold a0g at hj
   simp at hj
   have:j=900∨j=901:=by omega
   rcases this with rfl | rfl<;>rfl
theorem b3z (q:Int) (n1 n2 k:Nat) (h1:n1≤1048576) (h2:n2≤1048576) (hk:k < 1048576):f9 Tryz.prog 56 [.val (.agg [num q,num 0,tx [],.list 1 ((mkL lmk 1 n1 k).map tx),.list 5 ((mkL a01 3 n2 (k+n1)).map Q6)]),.val (num k)] (.ret (.val (num ((k+n1+3*n2:Nat):Int))) []) []:=by
 have q1:=a9z n1 k (by omega) h1
 have q2:=b22 n2 (k+n1) (by omega) h2
 rw [Nat.one_mul] at q1
 obtain ⟨k2,f2⟩:∃ m,k+n1+3*n2=m:=⟨_,rfl⟩
 obtain ⟨k1,f1⟩:∃ m,k+n1=m:=⟨_,rfl⟩
 rw [f2] at q2 ⊢
 rw [f1] at q1 q2 ⊢
 have g1:¬ (k1:Int) < 0:=by omega
 have g2:¬ (k2:Int) < 0:=by omega
 refine f8 mixed ok56 rfl (fun _=>rfl) ?_
 unfold ir56
 rw [d8]
 simp [f7,j4,k9,d7,f5,num,tx]
 refine b8 rfl rfl (.inl rfl) q1 ?_
 simp [num,g1]
 refine b8 rfl rfl (.inl rfl) q2 ?_
 simp [num,g2]
theorem b4m (v:LViolation) (hb:C9 9223372036854775807 v):f9 Tryz.prog 10 [.val (j3 v)] (.ret (.val (.bool true)) []) []:=by
 refine f8 mixed ok10 rfl (fun _=>rfl) ?_
 unfold ir10
 rw [d8]
 have hz0:=a91 v 1048576 (by omega) (by omega) hb
 unfold j3 at hz0
 simp [f7,j4,k9,d7,f5,j3,tx,num,d9]
 refine b8 rfl rfl (.inl rfl) hz0 ?_
 by_cases hz:cut 1048576 (a08 v) < 0
 · simp [num,hz]
 obtain ⟨hz1,hz2⟩:=b7c hz (by omega)
 have hs:C9 1048576 v:=a9m (by omega)
 have hx:=a90 v hs
 have hsp:=b9h v hs
 have hip:=b85 v hs
 have hnl:(boN v).length≤8:=by unfold boN;split<;>simp [bNames]
 have hll:(boL v).length≤8:=by unfold boL;split<;>simp [a1w]
 have hnb:bdS 1048576 (fun t=>t.length≤1048576) (boN v):=by
  unfold boN;split
  · exact ⟨by simp [bNames],fun t ht=>by
     simp only [bNames,List.mem_cons,List.not_mem_nil,or_false] at ht
     rcases ht with rfl | rfl | rfl | rfl | rfl | rfl | rfl | rfl<;>simp⟩
  · exact ⟨by simp,by simp⟩
 have hm:=b4f (boK v) (boN v) (boL v) 1 (by omega) (by omega) (by omega)
 have hh:=b3z (boK v) (boN v).length (boL v).length 1 (by omega) (by omega) (by omega)
 have heq:=b3a (boK v) 0 [] (boN v) ((boL v).map Q6) hnb (b7b (boL v) (by omega))
 obtain ⟨m1,hm1⟩:∃ m,1+(boN v).length+3*(boL v).length=m:=⟨_,rfl⟩
 rw [hm1] at hm hh
 have hne2:¬ (m1:Int) < 0:=by omega
 unfold rvB at hsp
 unfold pvB at hip
 generalize boK v=q at *
 generalize boC v=c0 at *
 obtain ⟨w1,hw1⟩:∃ l,(boN v).map tx=l:=⟨_,rfl⟩
 obtain ⟨w2,hw2⟩:∃ l,(boL v).map Q6=l:=⟨_,rfl⟩
 obtain ⟨r1,hr1⟩:∃ l,(mkL lmk 1 (boN v).length 1).map tx=l:=⟨_,rfl⟩
 obtain ⟨r2,hr2⟩:∃ l,(mkL a01 3 (boL v).length (1+(boN v).length)).map Q6=l:=⟨_,rfl⟩
 rw [hw1,hw2] at hsp hip heq
 rw [hw1,hw2,hr1,hr2] at hm
 rw [hr1,hr2] at hh
 simp [num,tx,hz,d9,PV.kill,PV.killL]
 refine b8 rfl rfl (.inl rfl) hx ?_
 simp [num,tx,hz,d9,PV.kill,PV.killL]
 refine a0d rfl rfl (.inl rfl) hsp ?_
 simp [num,tx,hz,d9,PV.kill,PV.killL]
 refine b8 rfl rfl (.inl rfl) hx ?_
 simp [num,tx,hz,d9,PV.kill,PV.killL]
 refine a6f rfl rfl rfl rfl hip ?_
 simp [num,tx,hz,d9,PV.kill,PV.killL,PV.shift,PV.shiftL,l1]
 refine b8 rfl rfl (.inr rfl) heq ?_
 simp [num,tx,hz,d9,PV.kill,PV.killL]
 refine b9e [27000,27001] (jxM w1 w2) (jxM r1 r2) (jxM w1 w2) (jxM r1 r2) (by simp) (by simp) (ps0:=[.agg [.val (num q),.val (num 0),.val (tx []),.own 900,.own 901],.val (num 1)]) rfl (fun j hj=>?_) (fun j hj=>?_) (fun j hj=>?_) (fun j hj=>?_) (fun j hj _=>?_) (fun j cs hj h=>?_) hm ?_
 · have:j=0∨j=1:=by simp at hj;omega
   rcases this with rfl | rfl<;>simp [jxM]
 · unfold jxM;split<;>rfl
 · unfold jxM;split<;>rfl
 · unfold jxM;split<;>rfl
 · unfold jxM;split<;>rfl
 · unfold jxM at h;split at h<;>cases h
 simp [num,tx,hz,d9,PV.kill,PV.killL,jxM,a8f,a8y,PV.ren,hne2]
 refine b8 rfl rfl (.inr rfl) hh ?_
 simp [num,tx,hz,d9,PV.kill,PV.killL,a8y,hne2]
 refine b8 rfl rfl (.inl rfl) hx ?_
 simp [num,tx,hz,d9,PV.kill,PV.killL,a8y,hne2]
 refine a6f rfl rfl rfl rfl hip ?_
 simp [num,tx,hz,d9,PV.kill,PV.killL,PV.shift,PV.shiftL,l1,a8y,hne2]
 refine b8 rfl rfl (.inr rfl) heq ?_
 simp [num,tx,hz,d9,PV.kill,PV.killL,a8y,hne2]
 refine b8 rfl rfl (.inr rfl) hh ?_
 simp [num,tx,hz,d9,PV.kill,PV.killL,a8y,hne2]
end Go.Proofs
end
