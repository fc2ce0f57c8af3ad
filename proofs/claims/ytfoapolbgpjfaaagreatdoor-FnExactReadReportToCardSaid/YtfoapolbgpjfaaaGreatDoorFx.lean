/- Fx: merged out of KXbv, KXbw, KXbx, KXby, KXbz. -/
import Derived.Test.YtfoapolbgpjfaaaGreatDoorFo
import Derived.Test.YtfoapolbgpjfaaaGreatDoorEb
import Derived.Test.YtfoapolbgpjfaaaGreatDoorEa
import Derived.Test.YtfoapolbgpjfaaaGreatDoorCa
import Derived.Test.YtfoapolbgpjfaaaGreatDoorBa
import Derived.Test.YtfoapolbgpjfaaaGreatDoorPWai
import Derived.Test.YtfoapolbgpjfaaaGreatDoorPWag
import Derived.Test.YtfoapolbgpjfaaaGreatDoorFs
import Derived.Test.YtfoapolbgpjfaaaGreatDoorAc
set_option linter.unusedSectionVars false
set_option linter.unusedSimpArgs false
set_option linter.unusedVariables false
set_option maxRecDepth 100000
section
namespace Go.Proofs
open Go.PW Go.KP
attribute [local simp] RV.cells RV.one PV.cells PV.solid PV.one N3 b8 O9 P0 RV.ofCells elems PV.killL
variable [GH]
def a5c:Tx:=[117,114,108]
def a6o:Tx:=[112,114,105,111,114,105,116,121]
def a2a:Tx:=[119,101,105,103,104,116]
def Z9:Tx:=[103,114,111,117,112]
def a1x:Tx:=[109,97,120,95,97,103,101]
def a0d:Tx:=[101,110,100,112,111,105,110,116,115]
def a02:Tx:=[100,101,102,97,117,108,116]
def a0j (x:LJson) (w:Tx) (lo hi usual:Int):Int×Bool:=if (R2 x w).2 then ((R2 x w).1.num,decide ((R2 x w).1.kind=3) && decide (lo≤(R2 x w).1.num∧(R2 x w).1.num≤hi)) else (usual,true)
theorem b3u {d:Nat} {x:LJson} (h:S6 d x):x.names.length≤1048576∧(x.names=[]∨x.names.length=x.items.length):=by
 obtain ⟨k,m,t,ns,xs⟩:=x
 have hnm:=a5l h
 refine ⟨?_,hnm.imp id fun h=>h.2.1⟩
 rcases hnm with h | ⟨_,h1,h2⟩
 · simp only [LJson.names];rw [h];simp
 · simp only [LJson.names];omega
theorem jidx_lt {d:Nat} {k m:Int} {t:Tx} {ns:List Tx} {xs:List LJson} (h:S6 d (.mk k m t ns xs)) (w:Tx) (i:Nat) (hi:a2i ns (fun x=>decide (x=w))=i):i < xs.length:=by
 have hnm:=a5l h
 rcases b3r ns (fun x=>decide (x=w)) with ⟨k1,k2⟩ | ⟨q,hq,k1,k2⟩
 · omega
 · rcases hnm with rfl | ⟨_,h1,h2⟩
   · simp at hq
   · omega
theorem c08 {d:Nat} {x:LJson} (h:S6 d x) (w:Tx):z6 Tryz.prog 160 [.val (N6 x),.val (tx w)] (.ret (.tup [.val (N6 (R2 x w).1),.val (.bool (R2 x w).2)]) []) []:=by
 have h':=b3u h
 obtain ⟨k,m,t,ns,xs⟩:=x
 exact b7w k m t ns xs w h'.1 h'.2
theorem b7d {d:Nat} {x:LJson} (h:S6 d x) (w:Tx):z6 Tryz.prog 59 [.val (N6 x),.val (tx w)] (.ret (.tup [.val (N6 (R2 x w).1),.val (.bool (R2 x w).2)]) []) []:=by
 have h':=b3u h
 obtain ⟨k,m,t,ns,xs⟩:=x
 exact c4w k m t ns xs w (by have:=h'.1;simp only [LJson.names] at this;omega) (jidx_lt h w)
theorem a58 {d:Nat} {x:LJson} (h:S6 (d+1) x) (w:Tx):(R2 x w)=(a5b,false)∨∃ y,R2 x w=(y,true)∧S6 d y:=by
 obtain ⟨k,m,t,ns,xs⟩:=x
 exact c17 w h
theorem a5x {d:Nat} {x:LJson} (h:S6 d x) (w:Tx) (lo hi usual:Int):z6 Tryz.prog 162 [.val (N6 x),.val (tx w),.val (num lo),.val (num hi),.val (num usual)] (.ret (.tup [.val (num (a0j x w lo hi usual).1),.val (.bool (a0j x w lo hi usual).2)]) []) []:=by
 refine K4 mixed ok162 rfl (fun _=>rfl) ?_
 have hM:=c08 h w
 unfold a0j
 generalize R2 x w=P at *
 obtain ⟨⟨a1,a2,a3,a4,a5⟩,ab⟩:=P
 obtain ⟨k,m,t,ns,xs⟩:=x
 rw [N4] at hM ⊢
 simp only [N4] at hM
 unfold ir162
 rw [d9]
 simp [w8,J8,P1,b9,q8,num,tx]
 refine P7 rfl rfl (.inl rfl) hM ?_
 cases ab with
 | false=>simp [num,tx]
 | true=>
  by_cases h3:a1=3
  · simp [num,tx,h3,LJson.kind,LJson.num]
    refine Q6 rfl rfl (.inl rfl) (a6j .i64 a2 lo hi) ?_
    simp [num,tx,h3,LJson.kind,LJson.num]
    try exact (Bool.decide_and _ _).symm
  · simp [num,tx,h3,LJson.kind,LJson.num]
theorem b32 {d:Nat} {x:LJson} (h:S6 d x) (w:Tx):z6 Tryz.prog 107 [.val (N6 x),.val (tx w)] (.ret (.tup [.val (num (a0j x w 1 9 1).1),.val (.bool (a0j x w 1 9 1).2)]) []) []:=by
 refine K4 mixed ok107 rfl (fun _=>rfl) ?_
 have hM:=b7d h w
 unfold a0j
 generalize R2 x w=P at *
 obtain ⟨⟨a1,a2,a3,a4,a5⟩,ab⟩:=P
 obtain ⟨k,m,t,ns,xs⟩:=x
 rw [N4] at hM ⊢
 simp only [N4] at hM
 unfold ir107
 rw [d9]
 simp [w8,J8,P1,b9,q8,num,tx]
 refine P7 rfl rfl (.inl rfl) hM ?_
 cases ab with
 | false=>simp [num,tx]
 | true=>
  by_cases h3:a1=3
  · simp [num,tx,h3,LJson.kind,LJson.num]
    refine Q6 rfl rfl (.inl rfl) (a0n a2 1 9) ?_
    simp [num,tx,h3,LJson.kind,LJson.num]
    try exact (Bool.decide_and _ _).symm
  · simp [num,tx,h3,LJson.kind,LJson.num]
def a5g (acc:List LTarget) (x:LJson):List LTarget:=
 if x.kind=6∧(R2 x a5c).1.kind=4∧(Z4 (R2 x a5c).1.text).isSome=true∧(a0j x a6o 1 9 1).2=true∧(a0j x a2a 1 9 1).2=true∧(acc.any fun y=>decide (y.url=(Z4 (R2 x a5c).1.text).getD []))=false
 then acc++[⟨(Z4 (R2 x a5c).1.text).getD [],(a0j x a6o 1 9 1).1,(a0j x a2a 1 9 1).1⟩] else acc
def P5 (l:List LJson):List LTarget:=l.foldl a5g []
theorem a9k {l:List LJson} {i:Nat} (h:i < l.length):P5 (l.take (i+1))=a5g (P5 (l.take i)) l[i]:=by
 unfold P5
 rw [List.take_add_one,List.getElem?_eq_getElem h,Option.toList_some,List.foldl_append];rfl
theorem b8a (acc:List LTarget) (x:LJson):(a5g acc x).length≤acc.length+1:=by
 unfold a5g;split
 · simp
 · omega
theorem b1b (l:List LJson):(P5 l).length≤l.length:=by
 have key:∀ (l:List LJson) (acc:List LTarget),(l.foldl a5g acc).length≤acc.length+l.length:=by
  intro l
  induction l with
  | nil=>intro acc;simp
  | cons x l ih=>intro acc;have:=ih (a5g acc x);have:=b8a acc x;simp only [List.foldl_cons,List.length_cons];omega
 have:=key l []
 simpa [P5] using this
theorem b3n {x:LJson} (h:S6 2 x) (w:Tx):(R2 x w).1.text.length≤120:=by
 rcases a58 h w with e | ⟨y,e,hy⟩
 · rw [e];simp [a5b,LJson.text]
 · rw [e]
   obtain ⟨a1,a2,a3,a4,a5⟩:=y
   unfold S6 at hy
   simp only [LJson.text]
   rcases hy with ⟨_,_,h,_⟩ | ⟨_,_,h,_⟩ | ⟨_,_,h,_⟩ | ⟨_,_,h,_⟩ | ⟨_,h,_⟩
   · rw [h];simp
   · rw [h];simp
   · rw [h];simp
   · exact h
   · rw [h];simp
end Go.Proofs
end
section
namespace Go.Proofs
open Go.PW Go.KP
attribute [local simp] RV.cells RV.one PV.cells PV.solid PV.one N3 b8 O9 P0 RV.ofCells elems PV.killL
variable [GH]
def rtC (n:Nat):Int:=if n=0 then 5 else if 4 < n then 6 else 0
theorem grp9 {K:Kx (PExit→St→Prop)} (nm:Tx) (ag:Int) (k9 n9:Int) (t9:Tx) (ns9:List Tx) (is:List LJson) (hg:∀ x∈is,S6 2 x) (hl:is.length≤12) (st:St)
 (e2:st.env 2=.ptr 2 0) (e4:st.env 4=.ptr 4 0) (e9:st.env 9=.ptr 9 0) (m2:st.mem 2=.box [.val (tx []),.val (num 0),.emp 3]) (m4:st.mem 4=.box [.val (tx nm),.val (num ag),.own 21])
 (m9:st.mem 9=.box [.val (num k9),.val (num n9),.val (tx t9),.val (.list 1 (ns9.map tx)),.val (.list 5 (is.map N6))]) (m21:st.mem 21=.row 129 3 [])
 (hK:∀ st':St,st'.env 2=.ptr 2 0→st'.env 3=.val (num (rtC (P5 is).length))→st'.mem 2=.box [.val (tx nm),.val (num ag),.own 21]→st'.mem 21=.row 129 3 ((P5 is).map J9)→K.k .ret st'):EC Tryz.prog ir104_from9 st (K:=K):=by
 unfold ir104_from9
 simp [num,tx,e2,e4,e9,m2,m4,m9,m21]
 refine S1 (X:=Nat) (fun i=>⟨S7 [(2,.ptr 2 0),(4,.ptr 4 0),(9,.ptr 9 0),(11,.val (num (i:Int)))],S0 [(2,.box [.val (tx []),.val (num 0),.emp 3]),(4,.box [.val (tx nm),.val (num ag),.own 21]),(9,.box [.val (num k9),.val (num n9),.val (tx t9),.val (.list 1 (ns9.map tx)),.val (.list 5 (is.map N6))]),(21,.row 129 3 ((P5 (is.take i)).map J9))]⟩)
  (fun i=>i≤is.length) (fun i=>is.length - i) 0 (Le.mk _ _ ?_ ?_) (Nat.zero_le _) ?_
 · simp [e2,e4,e9,num,tx,PV.kill]
 · simp [m2,m4,m9,m21,num,tx,MObj.kill,PV.kill,PV.killL,N7,P5]
 · intro i hi
   have wi:IntKind.i64.wrap ((i:Int)+1)=((i+1:Nat):Int):=by rw [wrap_i64 (by omega) (by omega)];omega
   have hln:=b1b (is.take i)
   rw [List.length_take] at hln
   by_cases h1:i < is.length
   · have hst0:=a9k h1
     obtain ⟨acc,hacc⟩:∃ a,P5 (is.take i)=a:=⟨_,rfl⟩
     rw [hacc] at hst0 hln ⊢
     obtain ⟨x,hx⟩:∃ x,is[i]=x:=⟨_,rfl⟩
     have hgx:S6 2 x:=by rw [← hx];exact hg _ (List.getElem_mem h1)
     rw [hx] at hst0
     have hU:=c08 hgx a5c
     have hP:=a5x hgx a6o 1 9 1
     have hW:=a5x hgx a2a 1 9 1
     have hlen:=b3n hgx a5c
     have hst:P5 (is.take (i+1))=if x.kind=6∧(R2 x a5c).1.kind=4∧(Z4 (R2 x a5c).1.text).isSome=true∧(a0j x a6o 1 9 1).2=true∧(a0j x a2a 1 9 1).2=true∧(acc.any fun y=>decide (y.url=(Z4 (R2 x a5c).1.text).getD []))=false
      then acc++[⟨(Z4 (R2 x a5c).1.text).getD [],(a0j x a6o 1 9 1).1,(a0j x a2a 1 9 1).1⟩] else acc:=hst0
     generalize a0j x a6o 1 9 1=P at *
     generalize a0j x a2a 1 9 1=W at *
     generalize R2 x a5c=U at *
     obtain ⟨pn,pb⟩:=P
     obtain ⟨wn,wb⟩:=W
     obtain ⟨⟨u1,u2,u3,u4,u5⟩,ub⟩:=U
     obtain ⟨y1,y2,y3,y4,y5⟩:=x
     simp only [LJson.text] at hlen
     have hCl:=b95 u3 (by omega)
     obtain ⟨co,hco⟩:∃ c,Z4 u3=c:=⟨_,rfl⟩
     replace hst:P5 (is.take (i+1))=if y1=6∧u1=4∧co.isSome=true∧pb=true∧wb=true∧(acc.any fun y=>decide (y.url=co.getD []))=false then acc++[⟨co.getD [],pn,wn⟩] else acc:=by rw [← hco];exact hst
     rw [hco] at hCl
     unfold Z7 at hCl
     have hA:=c_l03At acc (co.getD []) (by omega)
     have hge:=b42 acc (fun r=>decide (r.url=co.getD []))
     have hidx:(acc.any fun y=>decide (y.url=co.getD []))=false→a2i acc (fun r=>decide (r.url=co.getD [])) < 0:=fun h=>by
      rw [h] at hge
      have:=of_decide_eq_false hge
      omega
     have hidx2:a2i acc (fun r=>decide (r.url=co.getD [])) < 0→(acc.any fun y=>decide (y.url=co.getD []))=false:=fun h=>by
      rw [← hge];exact decide_eq_false (by omega)
     simp only [N4] at hU hP hW
     simp [num,tx,h1,hx,N4]
     refine P7 rfl rfl (.inl rfl) hU ?_
     simp [num,tx,b8]
     refine P7 rfl rfl (.inl rfl) hP ?_
     simp [num,tx,b8]
     refine P7 rfl rfl (.inl rfl) hW ?_
     simp [num,tx,b8]
     refine P7 rfl rfl (.inl rfl) hCl ?_
     by_cases c1:y1=6
     · by_cases c2:u1=4
       · by_cases c3:co.isSome=true
         · by_cases c4:pb=true
           · by_cases c5:wb=true
             · simp [num,tx,b8,c1,c2,c3,c4,c5]
               refine f6 rfl rfl (.inr rfl) hA ?_
               by_cases c6:(acc.any fun y=>decide (y.url=co.getD []))=false
               · have hst2:P5 (is.take (i+1))=acc++[⟨co.getD [],pn,wn⟩]:=by rw [hst,if_pos ⟨c1,c2,c3,c4,c5,c6⟩]
                 have hat:¬ a2i acc (fun r=>decide (r.url=co.getD [])) < 0→False:=fun h=>h (hidx c6)
                 have hneg:a2i acc (fun r=>decide (r.url=co.getD [])) < 0:=hidx c6
                 simp [num,tx,b8,hneg,elems,RV.one,N3]
                 refine ⟨by omega,by omega,?_⟩
                 refine LoopNext.mk (i+1) h1 (by omega) (Le.mk _ _ ?_ ?_)
                 · simp [num,wi,tx]
                 · rw [hst2];simp [num,tx,J9,PV.kill,MObj.kill]
               · have hst2:P5 (is.take (i+1))=acc:=by rw [hst,if_neg fun h=>c6 h.2.2.2.2.2]
                 have hneg:¬ a2i acc (fun r=>decide (r.url=co.getD [])) < 0:=fun h=>c6 (hidx2 h)
                 simp [num,tx,b8,hneg]
                 refine LoopNext.mk (i+1) h1 (by omega) (Le.mk _ _ ?_ ?_)
                 · simp [num,wi,tx]
                 · rw [hst2];simp [num,tx,PV.kill,MObj.kill]
             · have hst2:P5 (is.take (i+1))=acc:=by rw [hst,if_neg fun h=>c5 h.2.2.2.2.1]
               simp [num,tx,b8,c1,c2,c3,c4,c5]
               refine LoopNext.mk (i+1) h1 (by omega) (Le.mk _ _ ?_ ?_)
               · simp [num,wi,tx]
               · rw [hst2];simp [num,tx,PV.kill,MObj.kill]
           · have hst2:P5 (is.take (i+1))=acc:=by rw [hst,if_neg fun h=>c4 h.2.2.2.1]
             simp [num,tx,b8,c1,c2,c3,c4]
             refine LoopNext.mk (i+1) h1 (by omega) (Le.mk _ _ ?_ ?_)
             · simp [num,wi,tx]
             · rw [hst2];simp [num,tx,PV.kill,MObj.kill]
         · have hst2:P5 (is.take (i+1))=acc:=by rw [hst,if_neg fun h=>c3 h.2.2.1]
           simp [num,tx,b8,c1,c2,c3]
           refine LoopNext.mk (i+1) h1 (by omega) (Le.mk _ _ ?_ ?_)
           · simp [num,wi,tx]
           · rw [hst2];simp [num,tx,PV.kill,MObj.kill]
       · have hst2:P5 (is.take (i+1))=acc:=by rw [hst,if_neg fun h=>c2 h.2.1]
         simp [num,tx,b8,c1,c2]
         refine LoopNext.mk (i+1) h1 (by omega) (Le.mk _ _ ?_ ?_)
         · simp [num,wi,tx]
         · rw [hst2];simp [num,tx,PV.kill,MObj.kill]
     · have hst2:P5 (is.take (i+1))=acc:=by rw [hst,if_neg fun h=>c1 h.1]
       simp [num,tx,b8,c1]
       refine LoopNext.mk (i+1) h1 (by omega) (Le.mk _ _ ?_ ?_)
       · simp [num,wi,tx]
       · rw [hst2];simp [num,tx,PV.kill,MObj.kill]
   · have e:i=is.length:=by omega
     subst e
     rw [List.take_length] at *
     obtain ⟨ts,hts⟩:∃ a,P5 is=a:=⟨_,rfl⟩
     rw [hts] at hln hK ⊢
     by_cases h0:ts.length=0
     · have e0:ts=[]:=List.eq_nil_of_length_eq_zero h0
       subst e0
       simp [num,tx]
       exact hK _ (by simp) (by simp [rtC,num]) (by simp [num,tx,PV.kill]) (by simp)
     · have h0':¬ (ts.length:Int)=0:=by omega
       have h0n:¬ ts=[]:=fun h=>h0 (by rw [h];rfl)
       by_cases h4:4 < ts.length
       · have h4':(4:Int) < (ts.length:Int):=by omega
         simp [num,tx,h0,h0',h0n,h4,h4']
         exact hK _ (by simp) (by simp [rtC,num,h0,h0n,h4]) (by simp [num,tx,PV.kill]) (by simp)
       · have h4':¬ (4:Int) < (ts.length:Int):=by omega
         simp [num,tx,h0,h0',h0n,h4,h4']
         exact hK _ (by simp) (by simp [rtC,num,h0,h0n,h4]) (by simp [num,tx,PV.kill]) (by simp)
def rtG (j:LJson):LGroup×Int:=
 if j.kind≠6 then (⟨a02,0,[]⟩,9)
 else if (R2 j Z9).2=true∧¬ ((R2 j Z9).1.kind=4∧Z6 (R2 j Z9).1.text=true) then (⟨a02,0,[]⟩,10)
 else if ¬ ((R2 j a1x).1.kind=3∧1≤(R2 j a1x).1.num∧(R2 j a1x).1.num≤100) then (⟨if (R2 j Z9).2 then (R2 j Z9).1.text else a02,0,[]⟩,4)
 else if (R2 j a0d).1.kind≠5 then (⟨if (R2 j Z9).2 then (R2 j Z9).1.text else a02,(R2 j a1x).1.num,[]⟩,9)
 else (⟨if (R2 j Z9).2 then (R2 j Z9).1.text else a02,(R2 j a1x).1.num,P5 (R2 j a0d).1.items⟩,rtC (P5 (R2 j a0d).1.items).length)
theorem b36 {j:LJson} (h:S6 4 j) (h5:(R2 j a0d).1.kind=5):(∀ x∈(R2 j a0d).1.items,S6 2 x)∧(R2 j a0d).1.items.length≤12:=by
 rcases a58 h a0d with e | ⟨y,e,hy⟩
 · rw [e] at h5;cases h5
 · rw [e] at h5 ⊢
   obtain ⟨a1,a2,a3,a4,a5⟩:=y
   refine ⟨b10 hy,?_⟩
   simp only [LJson.kind] at h5
   unfold S6 at hy
   rcases hy with ⟨h,_⟩ | ⟨h,_⟩ | ⟨h,_⟩ | ⟨h,_⟩ | ⟨_,_,h,_⟩<;>first | omega | exact h
theorem c29 {j:LJson} (h:S6 4 j) (w:Tx):(R2 j w).1.text.length≤120:=by
 rcases a58 h w with e | ⟨y,e,hy⟩
 · rw [e];simp [a5b,LJson.text]
 · rw [e]
   obtain ⟨a1,a2,a3,a4,a5⟩:=y
   unfold S6 at hy
   simp only [LJson.text]
   rcases hy with ⟨_,_,h,_⟩ | ⟨_,_,h,_⟩ | ⟨_,_,h,_⟩ | ⟨_,_,h,_⟩ | ⟨_,h,_⟩
   · rw [h];simp
   · rw [h];simp
   · rw [h];simp
   · exact h
   · rw [h];simp
theorem resG {st:St} {s t:Nat} {nm:Tx} {ag c:Int} {d:Nat} {xs:List RV} (h1:st.env s=.ptr s 0) (h2:st.mem s=.box [.val (tx nm),.val (num ag),.own d]) (h5:st.env t=.val (num c)) (h3:st.mem d=.row 129 3 xs) (hd:d < 900) :
 R1 [.c s true 3,.t t] st.fin=some (.tup [.val (.agg [tx nm,num ag,.list 3 xs]),.val (num c)]):=by
 have ho:okId d=true:=by simp [okId];omega
 have e1:st.fin.env s=.ptr s 0:=by rw [J7,h1];simp [PV.frz,R8,h2,PV.pl]
 have e2:st.fin.mem s=.box [.val (tx nm),.val (num ag),.val (.list 3 xs)]:=by simp [St.fin,St.freeze,h2,MObj.pl,PV.frzL,PV.plL,PV.frz,PV.pl,R8,h3,ho,hd,tx,num]
 have e3:st.fin.env t=.val (num c):=by rw [J7,h5];rfl
 simp only [R1,U6,a12,e1,e2,e3]
 simp [O9,b8]
theorem grp4 {K:Kx (PExit→St→Prop)} (j:LJson) (h:S6 4 j) (nm:Tx) (R:LGroup×Int)
 (hR:(if ¬ ((R2 j a1x).1.kind=3∧1≤(R2 j a1x).1.num∧(R2 j a1x).1.num≤100) then (⟨nm,0,[]⟩,4) else if (R2 j a0d).1.kind≠5 then (⟨nm,(R2 j a1x).1.num,[]⟩,9) else (⟨nm,(R2 j a1x).1.num,P5 (R2 j a0d).1.items⟩,rtC (P5 (R2 j a0d).1.items).length))=R)
 (st:St) (e1:st.env 1=.ptr 1 0) (e2:st.env 2=.ptr 2 0) (e4:st.env 4=.ptr 4 0) (m1:st.mem 1=.box [.val (num j.kind),.val (num j.num),.val (tx j.text),.val (.list 1 (j.names.map tx)),.val (.list 5 (j.items.map N6))])
 (m2:st.mem 2=.box [.val (tx []),.val (num 0),.emp 3]) (m4:st.mem 4=.box [.val (tx nm),.val (num 0),.own 21]) (m21:st.mem 21=.row 129 3 [])
 (hK:∀ st':St,st'.env 2=.ptr 2 0→st'.env 3=.val (num R.2)→st'.mem 2=.box [.val (tx R.1.name),.val (num R.1.age),.own 21]→st'.mem 21=.row 129 3 (R.1.targets.map J9)→K.k .ret st'):EC Tryz.prog ir104_from4 st (K:=K):=by
 have hM:=a5x h a1x 1 100 0
 have hE:=c08 h a0d
 have eg:=b36 h
 unfold a0j at hM
 have hMz:=a58 h a1x
 generalize R2 j a1x=PM at *
 generalize R2 j a0d=PE at *
 obtain ⟨⟨a1,a2,a3,a4,a5⟩,ab⟩:=PM
 obtain ⟨⟨b1,b2,b3,b4,b5⟩,eb⟩:=PE
 obtain ⟨k,m,t,ns,xs⟩:=j
 simp only [LJson.kind,LJson.num,LJson.text,LJson.names,LJson.items] at m1
 replace hR:(if ¬ (a1=3∧1≤a2∧a2≤100) then ((⟨nm,0,[]⟩:LGroup),(4:Int)) else if b1≠5 then (⟨nm,a2,[]⟩,9) else (⟨nm,a2,P5 b5⟩,rtC (P5 b5).length))=R:=hR
 replace eg:b1=5→(∀ x∈b5,S6 2 x)∧b5.length≤12:=eg
 simp only [N4] at hE hM
 unfold ir104_from4
 obtain ⟨N,hN⟩:∃ N:Int×Bool,(if ab=true then (a2,decide (a1=3) && decide (1≤a2∧a2≤100)) else (0,true))=N:=⟨_,rfl⟩
 replace hM:z6 Tryz.prog 162 [.val (.agg [num k,num m,tx t,.list 1 (ns.map tx),.list 5 (xs.map N6)]),.val (tx a1x),.val (num 1),.val (num 100),.val (num 0)] (.ret (.tup [.val (num N.1),.val (.bool N.2)]) []) []:=by rw [← hN];exact hM
 obtain ⟨nn,nb⟩:=N
 have hfail:¬ (a1=3∧1≤a2∧a2≤100)→nb=false∨nn=0:=fun hf=>by
  cases ab with
  | false=>simp at hN;exact .inr hN.1.symm
  | true=>
   simp only [if_true,Prod.mk.injEq] at hN
   left
   rw [← hN.2]
   by_cases h3:a1=3
   · have:¬ (1≤a2∧a2≤100):=fun h=>hf ⟨h3,h⟩
     rw [decide_eq_false this];simp
   · rw [decide_eq_false h3];rfl
 have hgood:(a1=3∧1≤a2∧a2≤100)→nb=true∧nn=a2:=fun hf=>by
  cases ab with
  | false=>
   rcases hMz with e | ⟨y,e,_⟩
   · cases e;exact absurd hf.1 (by decide)
   · cases e
  | true=>
   simp only [if_true,Prod.mk.injEq] at hN
   refine ⟨?_,hN.1.symm⟩
   rw [← hN.2,decide_eq_true hf.1,decide_eq_true hf.2];rfl
 simp [num,tx,e1,e2,e4,m1,m2,m4,m21]
 refine P7 rfl rfl (.inl rfl) hM ?_
 by_cases hc:a1=3∧1≤a2∧a2≤100
 rotate_left
 · rw [if_pos hc] at hR
   subst hR
   rcases hfail hc with rfl | rfl
   · simp [num,tx,e1,e2,e4,m1,m2,m4,m21]
     exact hK _ (by simp [e2]) (by simp [num]) (by simp [num,tx,m4,PV.kill]) (by simp [m21])
   · cases nb with
     | false=>
      simp [num,tx,e1,e2,e4,m1,m2,m4,m21]
      exact hK _ (by simp [e2]) (by simp [num]) (by simp [num,tx,m4,PV.kill]) (by simp [m21])
     | true=>
      simp [num,tx,e1,e2,e4,m1,m2,m4,m21]
      exact hK _ (by simp [e2]) (by simp [num]) (by simp [num,tx,m4,PV.kill]) (by simp [m21])
 rw [if_neg (fun h=>h hc)] at hR
 obtain ⟨rfl,rfl⟩:=hgood hc
 have hn0:¬ nn=0:=by omega
 simp [num,tx,e1,e2,e4,m1,m2,m4,m21,hn0]
 refine P7 rfl rfl (.inl rfl) hE ?_
 by_cases h5:b1=5
 rotate_left
 · rw [if_pos h5] at hR
   subst hR
   simp [num,tx,e1,e2,e4,m1,m2,m4,m21,h5,PV.kill]
   exact hK _ (by simp [e2]) (by simp [num]) (by simp [num,tx,m4,PV.kill]) (by simp [m21])
 rw [if_neg (fun h=>h h5)] at hR
 subst hR
 obtain ⟨eg1,eg2⟩:=eg h5
 simp [num,tx,e1,e2,e4,m1,m2,m4,m21,h5,PV.kill]
 refine grp9 nm nn b1 b2 b3 b4 b5 eg1 eg2 _ ?_ ?_ ?_ ?_ ?_ ?_ ?_ (fun st' q1 q2 q3 q4=>hK st' q1 q2 q3 q4)
 all_goals simp [num,tx,e1,e2,e4,m1,m2,m4,m21,h5,PV.kill,PV.killL,MObj.kill]
theorem b94 (j:LJson) (h:j.kind=6→S6 4 j):z6 Tryz.prog 104 [.val (N6 j)] (.ret (.tup [.val (Z1 (rtG j).1),.val (num (rtG j).2)]) []) []:=by
 obtain ⟨R,hR⟩:∃ R,rtG j=R:=⟨_,rfl⟩
 rw [hR]
 unfold rtG at hR
 obtain ⟨Z,hZ⟩:∃ Z,a1l [.c 2 true 3,.t 3] (.tup [.val (Z1 R.1),.val (num R.2)])=Z:=⟨_,rfl⟩
 refine K4 mixed ok104 rfl (fun _=>rfl) ?_
 rw [hZ]
 have fin:∀ st':St,st'.env 2=.ptr 2 0→st'.env 3=.val (num R.2)→st'.mem 2=.box [.val (tx R.1.name),.val (num R.1.age),.own 21]→st'.mem 21=.row 129 3 (R.1.targets.map J9)→Z .ret st':=fun st' q1 q2 q3 q4=>by
  rw [← hZ]
  exact resG q1 q3 q2 q4 (by omega)
 by_cases hk:j.kind=6
 rotate_left
 · obtain rfl:R=(⟨a02,0,[]⟩,9):=by rw [← hR,if_pos hk]
   obtain ⟨k,m,t,ns,xs⟩:=j
   replace hk:¬ k=6:=hk
   unfold ir104
   rw [d9,N4]
   simp [w8,J8,P1,b9,q8,num,tx,hk,PV.kill,PV.killL]
   exact fin _ (by simp) (by simp [num]) (by simp [tx,num,a02,bs]) (by simp)
 replace h:=h hk
 have hG:=c08 h Z9
 have tg:=c29 h Z9
 have g4:=fun (K:Kx (PExit→St→Prop)) nm=>grp4 (K:=K) j h nm R
 generalize R2 j Z9=PG at *
 obtain ⟨⟨g1,g2,g3,gn,gi⟩,gb⟩:=PG
 replace hR:(if j.kind≠6 then ((⟨a02,0,[]⟩:LGroup),(9:Int)) else if gb=true∧¬ (g1=4∧Z6 g3=true) then (⟨a02,0,[]⟩,10) else if ¬ ((R2 j a1x).1.kind=3∧1≤(R2 j a1x).1.num∧(R2 j a1x).1.num≤100) then (⟨if gb=true then g3 else a02,0,[]⟩,4) else if (R2 j a0d).1.kind≠5 then (⟨if gb=true then g3 else a02,(R2 j a1x).1.num,[]⟩,9) else (⟨if gb=true then g3 else a02,(R2 j a1x).1.num,P5 (R2 j a0d).1.items⟩,rtC (P5 (R2 j a0d).1.items).length))=R:=hR
 generalize R2 j a1x=PM at *
 generalize R2 j a0d=PE at *
 obtain ⟨k,m,t,ns,xs⟩:=j
 simp only [LJson.text] at tg
 replace hR:(if k≠6 then ((⟨a02,0,[]⟩:LGroup),(9:Int)) else if gb=true∧¬ (g1=4∧Z6 g3=true) then (⟨a02,0,[]⟩,10) else if ¬ (PM.1.kind=3∧1≤PM.1.num∧PM.1.num≤100) then (⟨if gb=true then g3 else a02,0,[]⟩,4) else if PE.1.kind≠5 then (⟨if gb=true then g3 else a02,PM.1.num,[]⟩,9) else (⟨if gb=true then g3 else a02,PM.1.num,P5 PE.1.items⟩,rtC (P5 PE.1.items).length))=R:=hR
 simp only [N4] at hG
 have hNm:=c2y g3 (by omega)
 unfold ir104
 rw [d9,N4]
 replace hk:k=6:=hk
 rw [if_neg (fun h=>h hk)] at hR
 subst hk
 simp [w8,J8,P1,b9,q8,num,tx,PV.kill,PV.killL]
 refine P7 rfl rfl (.inl rfl) hG ?_
 cases gb with
 | false=>
  rw [if_neg (by simp)] at hR
  simp [num,tx,PV.kill,PV.killL]
  refine g4 _ a02 (by simp only [Bool.false_eq_true,if_false] at hR;exact hR) _ ?_ ?_ ?_ ?_ ?_ ?_ ?_ (fun st' q1 q2 q3 q4=>fin st' q1 q2 q3 q4)
  all_goals simp [num,tx,a02,bs,PV.kill,PV.killL,MObj.kill,LJson.kind,LJson.num,LJson.text,LJson.names,LJson.items]
 | true=>
  by_cases hn:g1=4∧Z6 g3=true
  rotate_left
  · rw [if_pos ⟨rfl,hn⟩] at hR
    subst hR
    by_cases h4:g1=4
    · have hw:Z6 g3=false:=by
       cases hq:Z6 g3 with
       | false=>rfl
       | true=>exact absurd ⟨h4,hq⟩ hn
      rw [hw] at hNm
      simp [num,tx,h4,PV.kill,PV.killL]
      refine f6 rfl rfl (.inl rfl) hNm ?_
      simp [num,tx,h4,PV.kill,PV.killL]
      exact fin _ (by simp) (by simp [num]) (by simp [tx,num,a02,bs]) (by simp)
    · simp [num,tx,h4,PV.kill,PV.killL]
      exact fin _ (by simp) (by simp [num]) (by simp [tx,num,a02,bs]) (by simp)
  · rw [if_neg (fun h=>h.2 hn)] at hR
    obtain ⟨h4,hw⟩:=hn
    rw [hw] at hNm
    simp [num,tx,h4,PV.kill,PV.killL]
    refine f6 rfl rfl (.inl rfl) hNm ?_
    simp [num,tx,h4,PV.kill,PV.killL]
    refine g4 _ g3 (by simp only [if_true] at hR;exact hR) _ ?_ ?_ ?_ ?_ ?_ ?_ ?_ (fun st' q1 q2 q3 q4=>fin st' q1 q2 q3 q4)
    all_goals simp [num,tx,a02,bs,PV.kill,PV.killL,MObj.kill,LJson.kind,LJson.num,LJson.text,LJson.names,LJson.items]
def a4j:LGroup:=⟨[],0,[]⟩
def a49 (t:Tx):LGroup×Int:=if (a1y t).2≠0 then (a4j,(a1y t).2) else if (rtG (a1y t).1).2≠0 then (a4j,(rtG (a1y t).1).2) else rtG (a1y t).1
theorem a65 (t:Tx) (h:(a1y t).1.kind=6):S6 4 (a1y t).1:=by
 unfold a1y at h ⊢
 split at h
 · rename_i h0
   rw [if_pos h0]
   unfold a0a at h ⊢
   cases hj:b1y t with
   | ok x k=>exact c4f hj
   | err c=>rw [hj] at h;simp [LJson.kind] at h
 · simp [LJson.kind] at h
theorem c3m {st:St} {s t:Nat} {c:Int} (h1:st.env s=.ptr s 0) (h2:st.mem s=.box [.val (tx []),.val (num 0),.emp 3]) (h5:st.env t=.val (num c)) :
 R1 [.c s true 3,.t t] st.fin=some (.tup [.val (Z1 a4j),.val (num c)]):=by
 have e1:st.fin.env s=.ptr s 0:=by rw [J7,h1];simp [PV.frz,R8,h2,PV.pl]
 have e2:st.fin.mem s=.box [.val (tx []),.val (num 0),.val (.list 3 [])]:=by simp [St.fin,St.freeze,h2,MObj.pl,PV.frzL,PV.plL,PV.frz,PV.pl,tx,num]
 have e3:st.fin.env t=.val (num c):=by rw [J7,h5];rfl
 simp only [R1,U6,a12,e1,e2,e3]
 simp [O9,b8,a4j,Z1]
theorem resGv {st:St} {s t:Nat} {c:Int} {g:LGroup} (h1:st.env s=.ptr s 0) (h2:st.mem s=.box [.val (tx g.name),.val (num g.age),.val (.list 3 (g.targets.map J9))]) (h5:st.env t=.val (num c)) :
 R1 [.c s true 3,.t t] st.fin=some (.tup [.val (Z1 g),.val (num c)]):=by
 have e1:st.fin.env s=.ptr s 0:=by rw [J7,h1];simp [PV.frz,R8,h2,PV.pl]
 have e2:st.fin.mem s=.box [.val (tx g.name),.val (num g.age),.val (.list 3 (g.targets.map J9))]:=by simp [St.fin,St.freeze,h2,MObj.pl,PV.frzL,PV.plL,PV.frz,PV.pl,tx,num]
 have e3:st.fin.env t=.val (num c):=by rw [J7,h5];rfl
 simp only [R1,U6,a12,e1,e2,e3]
 simp [O9,b8,Z1]
theorem b2p (t:Tx) (ht:t.length≤1048576):z6 Tryz.prog 45 [.val (tx t)] (.ret (.tup [.val (Z1 (a49 t).1),.val (num (a49 t).2)]) []) []:=by
 obtain ⟨R,hR⟩:∃ R,a49 t=R:=⟨_,rfl⟩
 rw [hR]
 unfold a49 at hR
 have hgd:=a65 t
 obtain ⟨Z,hZ⟩:∃ Z,a1l [.c 2 true 3,.t 3] (.tup [.val (Z1 R.1),.val (num R.2)])=Z:=⟨_,rfl⟩
 refine K4 mixed ok45 rfl (fun _=>rfl) ?_
 rw [hZ]
 have hr:=c2v t ht
 unfold c3p at hr
 unfold ir45
 rw [d9]
 by_cases h:t.length≤65536
 rotate_left
 · have e:a1y t=(.mk 0 0 [] [] [],2):=by unfold a1y;rw [if_neg h]
   have h':(65536:Int) < (t.length:Int):=by omega
   rw [e] at hR
   obtain rfl:R=(a4j,2):=by rw [← hR];rfl
   simp [w8,J8,P1,b9,q8,num,tx,N7,b7,h,h',PV.kill,PV.killL]
   rw [← hZ]
   exact c3m (by simp) (by simp [tx,num]) (by simp [num])
 have e:a1y t=a0a t:=by unfold a1y;rw [if_pos h]
 have h':¬ (65536:Int) < (t.length:Int):=by omega
 rw [e] at hR hgd
 obtain ⟨J,hJ⟩:∃ J,a0a t=J:=⟨_,rfl⟩
 rw [hJ] at hr hR hgd
 obtain ⟨j,c⟩:=J
 simp only [] at hr hR hgd
 simp [w8,J8,P1,b9,q8,num,tx,N7,b7,h,h',PV.kill,PV.killL]
 have hrr:=hr
 obtain ⟨k,m,tt,ns,is⟩:=j
 rw [N4] at hr
 refine P7 rfl rfl (.inl rfl) hr ?_
 by_cases hc:c=0
 rotate_left
 · rw [if_pos hc] at hR
   subst hR
   simp [num,tx,hc,PV.kill,PV.killL]
   rw [← hZ]
   exact c3m (by simp) (by simp [tx,num]) (by simp [num])
 rw [if_neg (fun h=>h hc)] at hR
 have hG:=b94 _ hgd
 obtain ⟨⟨g,gc⟩,hgc⟩:∃ G,rtG (.mk k m tt ns is)=G:=⟨_,rfl⟩
 rw [hgc] at hG hR
 rw [N4] at hG
 unfold Z1 at hG
 simp [num,tx,hc,PV.kill,PV.killL]
 refine P7 rfl rfl (.inl rfl) hG ?_
 by_cases hd:gc=0
 rotate_left
 · rw [if_pos hd] at hR
   subst hR
   simp [num,tx,hd,PV.kill,PV.killL]
   rw [← hZ]
   exact c3m (by simp) (by simp [tx,num]) (by simp [num])
 rw [if_neg (fun h=>h hd)] at hR
 subst hR
 simp [num,tx,hd,PV.kill,PV.killL]
 rw [← hZ]
 exact resGv (by simp) (by simp [tx,num]) (by simp [num,hd])
end Go.Proofs
end
section
namespace Go.Proofs
open Go.PW Go.KP
attribute [local simp] RV.cells RV.one PV.cells PV.solid PV.one N3 b8 O9 P0 RV.ofCells elems PV.killL
variable [GH]
def gV (g:LGroup) (c:Int) (i:Nat):PV:=.tup [.agg [.val (tx g.name),.val (num g.age),.own i],.val (num c)]
theorem retGz {st:St} {c:Int} (h1:st.env 2=.ptr 2 0) (h2:st.mem 2=.box [.val (tx []),.val (num 0),.emp 3]) (h5:st.env 3=.val (num c)) :
 c24 [.c 2 true 3,.t 3] (gV a4j c) 129 3 [] .ret st:=by
 have a1:=Le.adoptBox (st:=st) 2 600 129 3 [.val (tx []),.val (num 0),.emp 3] [.val (tx []),.val (num 0),.own 600] (by omega) (.inl (by omega)) (by omega) h2 rfl (fun j hj=>by
  have:j=0∨j=1∨j=2:=by simp at hj;omega
  rcases this with rfl | rfl | rfl
  · exact .kill (.val _)
  · exact .kill (.val _)
  · exact .emp 3)
 refine ⟨_,a1,600,?_,by simp [upd]⟩
 simp [R1,U6,a12,upd,h1,h5,O9,b8,PV.kill,gV,a4j]
theorem retGo {st:St} {c:Int} {g:LGroup} (d:Nat) (h1:st.env 2=.ptr 2 0) (h2:st.mem 2=.box [.val (tx g.name),.val (num g.age),.own d]) (h5:st.env 3=.val (num c)) (h3:st.mem d=.row 129 3 (g.targets.map J9)) :
 c24 [.c 2 true 3,.t 3] (gV g c) 129 3 (g.targets.map J9) .ret st:=
 ⟨st,Le.refl _,d,by simp [R1,U6,a12,h1,h2,h5,O9,b8,gV],h3⟩
theorem imp10 {K:Kx (PExit→St→Prop)} (nm:Tx) (ag:Int) (k9 n9:Int) (t9:Tx) (ns9:List Tx) (is:List LJson) (hg:∀ x∈is,S6 2 x) (hl:is.length≤12) (st:St)
 (e2:st.env 2=.ptr 2 0) (e6:st.env 6=.ptr 6 0) (e11:st.env 11=.ptr 11 0) (m2:st.mem 2=.box [.val (tx []),.val (num 0),.emp 3]) (m6:st.mem 6=.box [.val (tx nm),.val (num ag),.emp 3])
 (m11:st.mem 11=.box [.val (num k9),.val (num n9),.val (tx t9),.val (.list 1 (ns9.map tx)),.val (.list 5 (is.map N6))])
 (hK1:∀ st':St,rtC (P5 is).length≠0→st'.env 2=.ptr 2 0→st'.env 3=.val (num (rtC (P5 is).length))→st'.mem 2=.box [.val (tx []),.val (num 0),.emp 3]→K.k .ret st')
 (hK0:∀ st':St,rtC (P5 is).length=0→st'.env 2=.ptr 2 0→st'.env 3=.val (num 0)→st'.mem 2=.box [.val (tx nm),.val (num ag),.own 600]→st'.mem 600=.row 129 3 ((P5 is).map J9)→K.k .ret st'):EC Tryz.prog ir46_from10 st (K:=K):=by
 unfold ir46_from10
 simp [num,tx,e2,e6,e11,m2,m6,m11]
 refine S1 (X:=Nat) (fun i=>⟨S7 [(2,.ptr 2 0),(6,.ptr 6 0),(84,.val (.list 5 (is.map N6))),(85,.val (num is.length)),(86,.val (num (i:Int)))],S0 [(2,.box [.val (tx []),.val (num 0),.emp 3]),(6,.box [.val (tx nm),.val (num ag),.own 600]),(600,.row 129 3 ((P5 (is.take i)).map J9))]⟩)
  (fun i=>i≤is.length) (fun i=>is.length - i) 0 ((Le.adoptBox 6 600 129 3 [.val (tx nm),.val (num ag),.emp 3] [.val (tx nm),.val (num ag),.own 600] (by omega) (.inl (by omega)) (by omega) (by simp [m6]) rfl (fun j hj=>?_)).trans (Le.mk _ _ ?_ ?_)) (Nat.zero_le _) ?_
 · have:j=0∨j=1∨j=2:=by simp at hj;omega
   rcases this with rfl | rfl | rfl
   · exact .kill (.val _)
   · exact .kill (.val _)
   · exact .emp 3
 · simp [e2,e6,num,tx,PV.kill]
 · simp [m2,m6,num,tx,MObj.kill,PV.kill,PV.killL,N7,P5]
 · intro i hi
   have wi:IntKind.i64.wrap ((i:Int)+1)=((i+1:Nat):Int):=by rw [wrap_i64 (by omega) (by omega)];omega
   have hln:=b1b (is.take i)
   rw [List.length_take] at hln
   by_cases h1:i < is.length
   · have hst0:=a9k h1
     obtain ⟨acc,hacc⟩:∃ a,P5 (is.take i)=a:=⟨_,rfl⟩
     rw [hacc] at hst0 hln ⊢
     obtain ⟨x,hx⟩:∃ x,is[i]=x:=⟨_,rfl⟩
     have hgx:S6 2 x:=by rw [← hx];exact hg _ (List.getElem_mem h1)
     rw [hx] at hst0
     have hU:=b7d hgx a5c
     have hP:=b32 hgx a6o
     have hW:=b32 hgx a2a
     have hlen:=b3n hgx a5c
     have hst:P5 (is.take (i+1))=if x.kind=6∧(R2 x a5c).1.kind=4∧(Z4 (R2 x a5c).1.text).isSome=true∧(a0j x a6o 1 9 1).2=true∧(a0j x a2a 1 9 1).2=true∧(acc.any fun y=>decide (y.url=(Z4 (R2 x a5c).1.text).getD []))=false
      then acc++[⟨(Z4 (R2 x a5c).1.text).getD [],(a0j x a6o 1 9 1).1,(a0j x a2a 1 9 1).1⟩] else acc:=hst0
     generalize a0j x a6o 1 9 1=P at *
     generalize a0j x a2a 1 9 1=W at *
     generalize R2 x a5c=U at *
     obtain ⟨pn,pb⟩:=P
     obtain ⟨wn,wb⟩:=W
     obtain ⟨⟨u1,u2,u3,u4,u5⟩,ub⟩:=U
     obtain ⟨y1,y2,y3,y4,y5⟩:=x
     simp only [LJson.text] at hlen
     have hCl:=i_clean u3 (by omega)
     rw [b3a] at hCl
     obtain ⟨co,hco⟩:∃ c,Z4 u3=c:=⟨_,rfl⟩
     replace hst:P5 (is.take (i+1))=if y1=6∧u1=4∧co.isSome=true∧pb=true∧wb=true∧(acc.any fun y=>decide (y.url=co.getD []))=false then acc++[⟨co.getD [],pn,wn⟩] else acc:=by rw [← hco];exact hst
     rw [hco] at hCl
     unfold Z7 at hCl
     have hA:=c40 acc (co.getD []) (by omega)
     simp only [N4] at hU hP hW
     simp [num,tx,h1,hx,N4]
     refine P7 rfl rfl (.inl rfl) hU ?_
     simp [num,tx,b8]
     refine P7 rfl rfl (.inl rfl) hCl ?_
     simp [num,tx,b8]
     refine P7 rfl rfl (.inl rfl) hP ?_
     simp [num,tx,b8]
     refine P7 rfl rfl (.inl rfl) hW ?_
     by_cases c1:y1=6
     · by_cases c2:u1=4
       · by_cases c3:co.isSome=true
         · by_cases c4:pb=true
           · by_cases c5:wb=true
             · simp [num,tx,b8,c1,c2,c3,c4,c5]
               refine f6 rfl rfl (.inr rfl) hA ?_
               cases hany:(acc.any fun y=>decide (y.url=co.getD [])) with
               | false=>
                have hst2:P5 (is.take (i+1))=acc++[⟨co.getD [],pn,wn⟩]:=by rw [hst,if_pos ⟨c1,c2,c3,c4,c5,hany⟩]
                simp [num,tx,b8,elems,RV.one,N3]
                refine ⟨by omega,by omega,?_⟩
                refine LoopNext.mk (i+1) h1 (by omega) (Le.mk _ _ ?_ ?_)
                · simp [num,wi,tx,PV.kill]
                · rw [hst2];simp [num,tx,J9,PV.kill,MObj.kill]
               | true=>
                have hst2:P5 (is.take (i+1))=acc:=by rw [hst,if_neg fun h=>by rw [hany] at h;exact absurd h.2.2.2.2.2 (by decide)]
                simp [num,tx,b8]
                refine LoopNext.mk (i+1) h1 (by omega) (Le.mk _ _ ?_ ?_)
                · simp [num,wi,tx,PV.kill]
                · rw [hst2];simp [num,tx,PV.kill,MObj.kill]
             · have hst2:P5 (is.take (i+1))=acc:=by rw [hst,if_neg fun h=>c5 h.2.2.2.2.1]
               simp [num,tx,b8,c1,c2,c3,c4,c5]
               refine LoopNext.mk (i+1) h1 (by omega) (Le.mk _ _ ?_ ?_)
               · simp [num,wi,tx,PV.kill]
               · rw [hst2];simp [num,tx,PV.kill,MObj.kill]
           · have hst2:P5 (is.take (i+1))=acc:=by rw [hst,if_neg fun h=>c4 h.2.2.2.1]
             simp [num,tx,b8,c1,c2,c3,c4]
             refine LoopNext.mk (i+1) h1 (by omega) (Le.mk _ _ ?_ ?_)
             · simp [num,wi,tx,PV.kill]
             · rw [hst2];simp [num,tx,PV.kill,MObj.kill]
         · have hst2:P5 (is.take (i+1))=acc:=by rw [hst,if_neg fun h=>c3 h.2.2.1]
           simp [num,tx,b8,c1,c2,c3]
           refine LoopNext.mk (i+1) h1 (by omega) (Le.mk _ _ ?_ ?_)
           · simp [num,wi,tx,PV.kill]
           · rw [hst2];simp [num,tx,PV.kill,MObj.kill]
       · have hst2:P5 (is.take (i+1))=acc:=by rw [hst,if_neg fun h=>c2 h.2.1]
         simp [num,tx,b8,c1,c2]
         refine LoopNext.mk (i+1) h1 (by omega) (Le.mk _ _ ?_ ?_)
         · simp [num,wi,tx,PV.kill]
         · rw [hst2];simp [num,tx,PV.kill,MObj.kill]
     · have hst2:P5 (is.take (i+1))=acc:=by rw [hst,if_neg fun h=>c1 h.1]
       simp [num,tx,b8,c1]
       refine LoopNext.mk (i+1) h1 (by omega) (Le.mk _ _ ?_ ?_)
       · simp [num,wi,tx,PV.kill]
       · rw [hst2];simp [num,tx,PV.kill,MObj.kill]
   · have e:i=is.length:=by omega
     subst e
     rw [List.take_length] at *
     obtain ⟨ts,hts⟩:∃ a,P5 is=a:=⟨_,rfl⟩
     rw [hts] at hln hK1 hK0 ⊢
     by_cases h0:ts.length=0
     · have e0:ts=[]:=List.eq_nil_of_length_eq_zero h0
       subst e0
       simp [num,tx,PV.kill,PV.killL]
       exact hK1 _ (by simp [rtC]) (by simp) (by simp [rtC,num]) (by simp [num,tx,PV.kill,N7])
     · have h0':¬ (ts.length:Int)=0:=by omega
       have h0n:¬ ts=[]:=fun h=>h0 (by rw [h];rfl)
       by_cases h4:4 < ts.length
       · have h4':(4:Int) < (ts.length:Int):=by omega
         simp [num,tx,h0,h0',h0n,h4,h4',PV.kill,PV.killL]
         exact hK1 _ (by simp [rtC,h0,h0n,h4]) (by simp) (by simp [rtC,num,h0,h0n,h4]) (by simp [num,tx,PV.kill,N7])
       · have h4':¬ (4:Int) < (ts.length:Int):=by omega
         simp [num,tx,h0,h0',h0n,h4,h4',PV.kill,PV.killL]
         exact hK0 _ (by simp [rtC,h0,h0n,h4]) (by simp) (by simp [rtC,num,h0,h0n,h4]) (by simp [num,tx,PV.kill]) (by simp)
theorem imp6 {K:Kx (PExit→St→Prop)} (j:LJson) (h:S6 4 j) (nm:Tx) (R:LGroup×Int)
 (hR:(if ¬ ((R2 j a1x).1.kind=3∧1≤(R2 j a1x).1.num∧(R2 j a1x).1.num≤100) then (⟨nm,0,[]⟩,4) else if (R2 j a0d).1.kind≠5 then (⟨nm,(R2 j a1x).1.num,[]⟩,9) else (⟨nm,(R2 j a1x).1.num,P5 (R2 j a0d).1.items⟩,rtC (P5 (R2 j a0d).1.items).length))=R)
 (st:St) (e2:st.env 2=.ptr 2 0) (e4:st.env 4=.ptr 4 0) (e6:st.env 6=.ptr 6 0) (m4:st.mem 4=.box [.val (num j.kind),.val (num j.num),.val (tx j.text),.val (.list 1 (j.names.map tx)),.val (.list 5 (j.items.map N6))])
 (m2:st.mem 2=.box [.val (tx []),.val (num 0),.emp 3]) (m6:st.mem 6=.box [.val (tx nm),.val (num 0),.emp 3])
 (hK1:∀ st':St,R.2≠0→st'.env 2=.ptr 2 0→st'.env 3=.val (num R.2)→st'.mem 2=.box [.val (tx []),.val (num 0),.emp 3]→K.k .ret st')
 (hK0:∀ st':St,R.2=0→st'.env 2=.ptr 2 0→st'.env 3=.val (num 0)→st'.mem 2=.box [.val (tx R.1.name),.val (num R.1.age),.own 600]→st'.mem 600=.row 129 3 (R.1.targets.map J9)→K.k .ret st'):EC Tryz.prog ir46_from6 st (K:=K):=by
 have hM:=b7d h a1x
 have hE:=b7d h a0d
 have eg:=b36 h
 generalize R2 j a1x=PM at *
 generalize R2 j a0d=PE at *
 obtain ⟨⟨a1,a2,a3,a4,a5⟩,ab⟩:=PM
 obtain ⟨⟨b1,b2,b3,b4,b5⟩,eb⟩:=PE
 obtain ⟨k,m,t,ns,xs⟩:=j
 simp only [LJson.kind,LJson.num,LJson.text,LJson.names,LJson.items] at m4
 replace hR:(if ¬ (a1=3∧1≤a2∧a2≤100) then ((⟨nm,0,[]⟩:LGroup),(4:Int)) else if b1≠5 then (⟨nm,a2,[]⟩,9) else (⟨nm,a2,P5 b5⟩,rtC (P5 b5).length))=R:=hR
 replace eg:b1=5→(∀ x∈b5,S6 2 x)∧b5.length≤12:=eg
 simp only [N4] at hE hM
 unfold ir46_from6
 simp [num,tx,e2,e4,e6,m2,m4,m6]
 refine P7 rfl rfl (.inl rfl) hM ?_
 by_cases h3:a1=3
 rotate_left
 · obtain rfl:R=(⟨nm,0,[]⟩,4):=by rw [← hR,if_pos (fun h=>h3 h.1)]
   simp [num,tx,e2,e4,e6,m2,m4,m6,h3,PV.kill,PV.killL]
   exact hK1 _ (by simp) (by simp [e2]) (by simp [num]) (by simp [num,tx,PV.kill,N7])
 simp [num,tx,e2,e4,e6,m2,m4,m6,h3,PV.kill,PV.killL]
 refine f6 rfl rfl (.inl rfl) (a0n a2 1 100) ?_
 by_cases hc:1≤a2∧a2≤100
 rotate_left
 · obtain rfl:R=(⟨nm,0,[]⟩,4):=by rw [← hR,if_pos (fun h=>hc h.2)]
   rw [decide_eq_false hc]
   simp [num,tx,e2,e4,e6,m2,m4,m6,h3,PV.kill,PV.killL]
   exact hK1 _ (by simp) (by simp [e2]) (by simp [num]) (by simp [num,tx,PV.kill,N7])
 rw [decide_eq_true hc]
 rw [if_neg (fun h=>h ⟨h3,hc⟩)] at hR
 simp [num,tx,e2,e4,e6,m2,m4,m6,h3,PV.kill,PV.killL]
 refine P7 rfl rfl (.inl rfl) hE ?_
 by_cases h5:b1=5
 rotate_left
 · obtain rfl:R=(⟨nm,a2,[]⟩,9):=by rw [← hR,if_pos h5]
   simp [num,tx,e2,e4,e6,m2,m4,m6,h3,h5,PV.kill,PV.killL]
   exact hK1 _ (by simp) (by simp [e2]) (by simp [num]) (by simp [num,tx,PV.kill,N7])
 rw [if_neg (fun h=>h h5)] at hR
 subst hR
 obtain ⟨eg1,eg2⟩:=eg h5
 simp [num,tx,e2,e4,e6,m2,m4,m6,h3,h5,PV.kill,PV.killL]
 refine imp10 nm a2 b1 b2 b3 b4 b5 eg1 eg2 _ ?_ ?_ ?_ ?_ ?_ ?_ (fun st' q0 q1 q2 q3=>hK1 st' q0 q1 q2 q3) (fun st' q0 q1 q2 q3 q4=>hK0 st' q0 q1 q2 q3 q4)
 all_goals simp [num,tx,e2,e4,e6,m2,m4,m6,h5,PV.kill,PV.killL,MObj.kill]
theorem b15 (t:Tx):z6 Tryz.prog 46 [.val (tx t)] (.ret (gV (a49 t).1 (a49 t).2 0) [⟨129,3,(a49 t).1.targets.map J9⟩]) []:=by
 obtain ⟨R,hR⟩:∃ R,a49 t=R:=⟨_,rfl⟩
 rw [hR]
 unfold a49 at hR
 have hgd:=a65 t
 have hr:=b9h t
 unfold b8e at hr
 refine c5d (mk:=fun i=>gV R.1 R.2 i) mixed ok46 rfl (fun _=>rfl) ?_
 obtain ⟨Z,hZ⟩:∃ Z,c24 [.c 2 true 3,.t 3] (fun i=>gV R.1 R.2 i) 129 3 (R.1.targets.map J9)=Z:=⟨_,rfl⟩
 rw [hZ]
 unfold ir46
 rw [d9]
 obtain ⟨J,hJ⟩:∃ J,a1y t=J:=⟨_,rfl⟩
 rw [hJ] at hr hR hgd
 obtain ⟨j,c⟩:=J
 simp only [] at hr hR hgd
 have zero:∀ st':St,∀ c:Int,R=(a4j,c)→st'.env 2=.ptr 2 0→st'.env 3=.val (num c)→st'.mem 2=.box [.val (tx []),.val (num 0),.emp 3]→Z .ret st':=fun st' c hc q1 q2 q3=>by
  rw [← hZ,hc]
  exact retGz q1 q3 q2
 have g6:=fun (K:Kx (PExit→St→Prop)) (h:S6 4 j) nm R=>imp6 (K:=K) j h nm R
 have hGm:=fun (h:S6 4 j)=>b7d h Z9
 have tgm:=fun (h:S6 4 j)=>c29 h Z9
 obtain ⟨G,hGd⟩:∃ G,rtG j=G:=⟨_,rfl⟩
 rw [hGd] at hR
 unfold rtG at hGd
 simp [w8,J8,P1,b9,q8,num,tx,N7,PV.kill,PV.killL]
 generalize R2 j Z9=PG at *
 obtain ⟨⟨g1,g2,g3,gn,gi⟩,gb⟩:=PG
 generalize R2 j a1x=PM at *
 generalize R2 j a0d=PE at *
 obtain ⟨k,m,tt,ns,is⟩:=j
 rw [N4] at hr
 refine P7 rfl rfl (.inl rfl) hr ?_
 by_cases hc:c=0
 rotate_left
 · rw [if_pos hc] at hR
   simp [num,tx,hc,PV.kill,PV.killL]
   exact zero _ c hR.symm (by simp) (by simp [num]) (by simp [tx,num,N7,PV.kill])
 rw [if_neg (fun h=>h hc)] at hR
 by_cases hk:k=6
 rotate_left
 · have hG9:G=(⟨a02,0,[]⟩,9):=by rw [← hGd];simp [LJson.kind,hk]
   have hR':R=(a4j,9):=by rw [← hR,hG9];rfl
   simp [num,tx,hc,hk,PV.kill,PV.killL]
   exact zero _ 9 hR' (by simp) (by simp [num]) (by simp [tx,num,N7,PV.kill])
 have hj:=hgd hk
 have hG:=hGm hj
 have tg:=tgm hj
 simp only [LJson.text] at tg
 simp only [N4] at hG
 have hNm:=c41 g3 (by omega)
 subst hk
 have fin1:∀ st':St,G.2≠0→st'.env 2=.ptr 2 0→st'.env 3=.val (num G.2)→st'.mem 2=.box [.val (tx []),.val (num 0),.emp 3]→Z .ret st':=fun st' h0 q1 q2 q3=>zero st' G.2 (by rw [← hR,if_pos h0]) q1 q2 q3
 have fin0:∀ st':St,G.2=0→st'.env 2=.ptr 2 0→st'.env 3=.val (num 0)→st'.mem 2=.box [.val (tx G.1.name),.val (num G.1.age),.own 600]→st'.mem 600=.row 129 3 (G.1.targets.map J9)→Z .ret st':=fun st' h0 q1 q2 q3 q4=>by
  have hRG:R=G:=by rw [← hR,if_neg (fun h=>h h0)]
  rw [← hZ,hRG]
  exact retGo 600 q1 q3 (by rw [h0];exact q2) q4
 replace hGd:(if gb=true∧¬ (g1=4∧Z6 g3=true) then ((⟨a02,0,[]⟩:LGroup),(10:Int)) else if ¬ (PM.1.kind=3∧1≤PM.1.num∧PM.1.num≤100) then (⟨if gb=true then g3 else a02,0,[]⟩,4) else if PE.1.kind≠5 then (⟨if gb=true then g3 else a02,PM.1.num,[]⟩,9) else (⟨if gb=true then g3 else a02,PM.1.num,P5 PE.1.items⟩,rtC (P5 PE.1.items).length))=G:=by
  have:=hGd
  rw [if_neg (fun h=>h rfl)] at this
  exact this
 simp [num,tx,hc,PV.kill,PV.killL]
 refine P7 rfl rfl (.inl rfl) hG ?_
 cases gb with
 | false=>
  rw [if_neg (by simp)] at hGd
  simp [num,tx,hc,PV.kill,PV.killL]
  refine g6 _ hj a02 G (by simp only [Bool.false_eq_true,if_false] at hGd;exact hGd) _ ?_ ?_ ?_ ?_ ?_ ?_ (fun st' q0 q1 q2 q3=>fin1 st' q0 q1 q2 q3) (fun st' q0 q1 q2 q3 q4=>fin0 st' q0 q1 q2 q3 q4)
  all_goals simp [num,tx,a02,bs,PV.kill,PV.killL,MObj.kill,LJson.kind,LJson.num,LJson.text,LJson.names,LJson.items]
 | true=>
  by_cases hn:g1=4∧Z6 g3=true
  rotate_left
  · rw [if_pos ⟨rfl,hn⟩] at hGd
    subst hGd
    by_cases h4:g1=4
    · have hw:Z6 g3=false:=by
       cases hq:Z6 g3 with
       | false=>rfl
       | true=>exact absurd ⟨h4,hq⟩ hn
      rw [hw] at hNm
      simp [num,tx,hc,h4,PV.kill,PV.killL]
      refine f6 rfl rfl (.inl rfl) hNm ?_
      simp [num,tx,hc,h4,PV.kill,PV.killL]
      exact fin1 _ (by simp) (by simp) (by simp [num]) (by simp [tx,num,N7,PV.kill])
    · simp [num,tx,hc,h4,PV.kill,PV.killL]
      exact fin1 _ (by simp) (by simp) (by simp [num]) (by simp [tx,num,N7,PV.kill])
  · rw [if_neg (fun h=>h.2 hn)] at hGd
    obtain ⟨h4,hw⟩:=hn
    rw [hw] at hNm
    simp [num,tx,hc,h4,PV.kill,PV.killL]
    refine f6 rfl rfl (.inl rfl) hNm ?_
    simp [num,tx,hc,h4,PV.kill,PV.killL]
    refine g6 _ hj g3 G (by simp only [if_true] at hGd;exact hGd) _ ?_ ?_ ?_ ?_ ?_ ?_ (fun st' q0 q1 q2 q3=>fin1 st' q0 q1 q2 q3) (fun st' q0 q1 q2 q3 q4=>fin0 st' q0 q1 q2 q3 q4)
    all_goals simp [num,tx,a02,bs,PV.kill,PV.killL,MObj.kill,LJson.kind,LJson.num,LJson.text,LJson.names,LJson.items]
end Go.Proofs
end
section
namespace Go.Proofs
open Go.PW Go.KP
attribute [local simp] RV.cells RV.one PV.cells PV.solid PV.one N3 b8 O9 P0 RV.ofCells elems PV.killL
variable [GF]
theorem b9p (x:LTarget) (hx:a8h 1048576 x):z6 Tryz.prog 166 [.val (J9 x),.val (J9 x)] (.ret (.val (.bool true)) []) []:=by
 refine K4 mixed ok166 rfl (fun _=>rfl) ?_
 unfold ir166
 rw [d9]
 unfold a8h at hx
 have b0:=hx
 simp [w8,J8,P1,b9,q8,J9,tx,num,b8]
theorem b7h (l:List LTarget) (hx:bdS 1048576 (a8h 1048576) l):z6 Tryz.prog 109 [.val (.list 3 (l.map J9)),.val (.list 3 (l.map J9))] (.ret (.val (.bool true)) []) []:=by
 refine K4 mixed ok109 rfl (fun _=>rfl) ?_
 unfold ir109
 rw [d9]
 have hl:l.length≤1048576:=hx.1
 simp [w8,J8,P1,b9,q8,num]
 refine S1 (X:=Nat) (fun i=>⟨S7 [(0,.val (.list 3 (l.map J9))),(1,.val (.list 3 (l.map J9))),(5,.val (num i))],S0 []⟩) (fun i=>i≤l.length) (fun i=>l.length - i) 0 (Le.mk _ _ ?_ ?_) ?_ ?_
 · simp [upd,num,PV.kill]
 · simp
 · simp
 · intro i hi
   simp [num]
   refine O5 (fun h1=>?_) (fun h1=>?_)
   · have e1:(l.map J9)[i]?.getD .nilptr=J9 l[i]:=by simp [List.getElem?_eq_getElem h1]
     simp [num,h1,e1,J9,tx]
     refine f6 rfl rfl (.inl rfl) (b9p l[i] (hx.2 _ (List.getElem_mem h1))) ?_
     simp
     refine LoopNext.mk (i+1) (by omega) (by omega) (Le.mk _ _ ?_ ?_)
     · simp [num];exact wrap_i64 (by omega) (by omega)
     · simp
   · simp
theorem b4u {K:Kx (PExit→St→Prop)} (xs:List RV) (k i:Nat) (a0 a1 a2:RV) (hi:i < xs.length) (hk:k < 549755813888) (hl:xs.length < 1099511627776) (hx:xs[i]?.getD .nilptr=.agg [a0,a1,a2])
 (hn:∀ st':St,st'.env 0=.own 900→st'.env 1=.val (num ((k+3:Nat):Int))→st'.env 5=.val (num ((i+1:Nat):Int))→st'.mem 900=.row 129 3 (xs.set i (J9 (S8 k)))→K.k .normal st') :
 EC Tryz.prog ir101_l6 ⟨S7 [(0,.own 900),(1,.val (num k)),(5,.val (num i))],S0 [(900,.row 129 3 xs)]⟩ (K:=K):=by
 unfold ir101_l6
 have s1:IntKind.i64.wrap ((k:Int)+1)=(k:Int)+1:=wrap_i64 (by omega) (by omega)
 have hmk0:z6 Tryz.prog 63 [.val (.int .i64 ((k:Int)))] (.ret (.val (.str (bs (lmk (k+0))))) []) []:=by
  have h:=b2l (k+0) (by omega)
  exact h
 have s2:IntKind.i64.wrap ((k:Int)+1+1)=(k:Int)+1+1:=wrap_i64 (by omega) (by omega)
 have c1:((k+1:Nat):Int)=(k:Int)+1:=by omega
 have s3:IntKind.i64.wrap ((k:Int)+1+1+1)=(k:Int)+1+1+1:=wrap_i64 (by omega) (by omega)
 have c2:((k+2:Nat):Int)=(k:Int)+1+1:=by omega
 have si:IntKind.i64.wrap ((i:Int)+1)=(i:Int)+1:=wrap_i64 (by omega) (by omega)
 have hx':xs[i]=.agg [a0,a1,a2]:=by rw [← hx];simp [List.getElem?_eq_getElem hi]
 simp [num,hi]
 refine f6 rfl rfl (.inl rfl) hmk0 ?_
 simp [num,hi,hx,tx,s1,s2,s3]
 refine hn _ ?_ ?_ ?_ ?_
 · simp
 · simp only [x4,F1,x6,E9,x7,p9,x5,F0,j5,A1,F8,F9,d8,o0,o9,i8,x8,p8,j4,E8,x1,p7,p6,C9,D0,T4,T5,Option.getD_some,Option.getD_none,B6,q9,l8,C6,l7,l1,C8,l2,C7,C5,C4,G5,u6,l5,C2,t8,l4,C1,B4,C3,u0,B9,k8,t7,C0,G7,G6,B5,B7,l3,B8,u7,l6,A4,j7,B3,B2,B1,G0,s9,j9,A9,s0,j8,A8,A2,B0,s8,A6,j6,r9,A7,G4,G3,A3,r8,k7,A5,t6,k6,I3,I2,J4,I4,I8,I6,I5,J3,I7,I9,J0,J1,J2,y7,y6,x9,K5,K6,F7,F2,r5,D4,v6,J6,q7,O0,K9,J7,M3,M5,M4,O1,O2,H5,H7,H6,H8,H9,L9,v8,L8,D5,D6,D7,w5,T6,E5,w9,N8,N9,G8,K7,K8,Option.map_some,Option.map_none,D8,w6,u9,l9,D2,D3,H0,G9,N0,M9,I1,E6,E7,I0,M6,M7,H1,n7,H2,n0,L4,E4,E3,j3,M2,M8,H4,L5,L7,L6,v7,z7,A0,z8,f7,M1,O4,O3,L2,H3,Q1,L3,n8,E1,E2,w7,D9,i7,r6,i6,r7,f8,J5,N1,N2,y8,y9,F4,F3,D1,F7,s1,s2,s3,num]
   simp
   try omega
 · simp [num,si]
 · simp [hi,hx,hx']
   try simp [s1,s2,s3,c1,c2,J9,S8,num,tx]
theorem b3d (l:List LTarget) (k:Nat) (hk:k < 8388608) (hl:l.length≤1048576):a8j Tryz.prog 101 (.own 0) 129 3 (l.map J9) [.val (num k)] (num ((k+3*l.length:Nat):Int)) ((mkL S8 3 l.length k).map J9):=by
 refine b2i mixed ok101 rfl ?_
 unfold ir101
 rw [d9]
 simp [w8,J8,P1,b9,q8,W9,PV.nm,num]
 refine S1 (X:=Nat) (fun i=>⟨S7 [(0,.own 900),(1,.val (num ((k+3*i:Nat):Int))),(5,.val (num i))],S0 [(900,.row 129 3 ((mkU S8 3 l k i).map J9))]⟩) (fun i=>i≤l.length) (fun i=>l.length - i) 0 (Le.mk _ _ ?_ ?_) (Nat.zero_le _) ?_
 · simp [upd,num,PV.kill]
 · simp [c30]
 · intro i hi
   have hml:=mkU_len S8 3 l k i hi
   by_cases h1:i < l.length
   · have hmi:i < (mkU S8 3 l k i).length:=by omega
     have hset:=mkU_set S8 3 l k i h1
     refine b4u ((mkU S8 3 l k i).map J9) (k+3*i) i (tx (mkU S8 3 l k i)[i].url) (num (mkU S8 3 l k i)[i].prio) (num (mkU S8 3 l k i)[i].weight) (by simpa using hmi) (by omega) (by simp;omega) (by simp [List.getElem?_eq_getElem hmi,J9]) (fun st' q0 q1 q5 qm=>?_)
     simp
     refine LoopNext.mk (i+1) h1 (by omega) (Le.mk _ _ ?_ ?_)
     · simp [q0,q1,q5,num]
       omega
     · rw [← List.map_set,hset] at qm
       simp [qm]
   · have e:i=l.length:=by omega
     subst e
     unfold ir101_l6
     simp [num,hml,mkU_all,a2z]
theorem b3e (n k:Nat) (hk:k < 8388608) (hl:n≤1048576):z6 Tryz.prog 102 [.val (.list 3 ((mkL S8 3 n k).map J9)),.val (num k)] (.ret (.val (num ((k+3*n:Nat):Int))) []) []:=by
 refine K4 mixed ok102 rfl (fun _=>rfl) ?_
 unfold ir102
 rw [d9]
 have hlen:=a2z S8 3 n k
 simp [w8,J8,P1,b9,q8,num]
 refine S1 (X:=Nat) (fun i=>⟨S7 [(0,.val (.list 3 ((mkL S8 3 n k).map J9))),(1,.val (num ((k+3*i:Nat):Int))),(5,.val (num i))],S0 []⟩) (fun i=>i≤n) (fun i=>n - i) 0 (Le.mk _ _ ?_ ?_) (Nat.zero_le _) ?_
 · simp [upd,num,PV.kill]
 · simp
 · intro i hi
   unfold ir102_l6
   by_cases h1:i < n
   · have hi':i < (mkL S8 3 n k).length:=by omega
     have hat:(mkL S8 3 n k)[i]=S8 (k+3*i):=mkL_at h1
     have e1:((mkL S8 3 n k).map J9)[i]?.getD .nilptr=J9 (S8 (k+3*i)):=by simp [List.getElem?_eq_getElem hi',hat]
     generalize hj:k+3*i=j at *
     have hjj:j < 1099511627776:=by omega
     have s1:IntKind.i64.wrap ((j:Int)+1)=((j+1:Nat):Int):=by rw [wrap_i64 (by omega) (by omega)];omega
     have s2:IntKind.i64.wrap (((j+1:Nat):Int)+1)=((j+2:Nat):Int):=by rw [wrap_i64 (by omega) (by omega)];omega
     have s3:IntKind.i64.wrap (((j+2:Nat):Int)+1)=((j+3:Nat):Int):=by rw [wrap_i64 (by omega) (by omega)];omega
     have si:IntKind.i64.wrap ((i:Int)+1)=((i+1:Nat):Int):=by rw [wrap_i64 (by omega) (by omega)];omega
     have hmk0:z6 Tryz.prog 63 [.val (.int .i64 ((j+0:Nat):Int))] (.ret (.val (.str (bs (lmk (j+0))))) []) []:=b2l (j+0) (by omega)
     have hat2:S8 j=⟨lmk j,((j+1:Nat):Int),((j+2:Nat):Int)⟩:=rfl
     generalize hj1:((j+1:Nat):Int)=j1 at *
     generalize hj2:((j+2:Nat):Int)=j2 at *
     simp [num,a2z,h1,e1,hat,hat2,J9,tx,s1,s2,s3,si]
     refine Q6 rfl rfl (.inl rfl) hmk0 ?_
     simp [num,a2z,h1,e1,hat,hat2,J9,tx,s1,s2,s3,si]
     refine LoopNext.mk (i+1) h1 (by omega) (Le.mk _ _ ?_ ?_)
     · simp [num,s1,s2,s3,si]
       omega
     · simp
   · have e:i=n:=by omega
     subst e
     simp [num,a2z]
theorem c2m (x:LGroup) (hx:b0o 1048576 x):z6 Tryz.prog 47 [.val (Z1 x),.val (Z1 x)] (.ret (.val (.bool true)) []) []:=by
 refine K4 mixed ok47 rfl (fun _=>rfl) ?_
 unfold ir47
 rw [d9]
 unfold b0o at hx
 obtain ⟨b0,b1⟩:=hx
 simp [w8,J8,P1,b9,q8,Z1,tx,num,b8]
 refine f6 rfl rfl (.inl rfl) (b7h x.targets b1) ?_
 simp [Z1,tx,num,b8]
end Go.Proofs
end
section
namespace Go.Proofs
open Go.PW Go.KP
attribute [local simp] RV.cells RV.one PV.cells PV.solid PV.one N3 b8 O9 P0 RV.ofCells elems PV.killL
variable [GH]
def gP (g:LGroup) (i:Nat):PV:=.agg [.val (tx g.name),.val (num g.age),.own i]
theorem b57 (g:LGroup) (k:Nat) (hk:k < 8388608) (hl:g.targets.length≤1048576):a8j Tryz.prog 48 (gP g 0) 129 3 (g.targets.map J9) [.val (num k)] (num ((k+3*g.targets.length:Nat):Int)) ((mkL S8 3 g.targets.length k).map J9):=by
 refine b2i mixed ok48 rfl ?_
 unfold ir48
 rw [d9]
 have hm:=b3d g.targets k hk hl
 simp [w8,J8,P1,b9,q8,W9,gP,PV.nm,PV.nmL,num,tx]
 refine rowC rfl rfl rfl rfl hm rfl ?_
 simp [num]
theorem b58 (a:Int) (t:Tx) (m k:Nat) (hk:k < 8388608) (hl:m≤1048576):z6 Tryz.prog 49 [.val (.agg [tx t,num a,.list 3 ((mkL S8 3 m k).map J9)]),.val (num k)] (.ret (.val (num ((k+3*m:Nat):Int))) []) []:=by
 refine K4 mixed ok49 rfl (fun _=>rfl) ?_
 unfold ir49
 rw [d9]
 simp [w8,J8,P1,b9,q8,num,tx]
 refine f6 rfl rfl (.inl rfl) (b3e m k hk hl) ?_
 have:¬ ((k:Int)+3*(m:Int) < 0):=by omega
 simp [num,this]
theorem b8b (l:List LJson):∀ y∈P5 l,y.url.length≤100:=by
 have key:∀ (l:List LJson) (acc:List LTarget),(∀ y∈acc,y.url.length≤100)→∀ y∈l.foldl a5g acc,y.url.length≤100:=by
  intro l
  induction l with
  | nil=>intro acc h;exact h
  | cons x l ih=>
   intro acc h
   refine ih _ ?_
   unfold a5g
   split
   · intro y hy
     rcases List.mem_append.1 hy with hy | hy
     · exact h y hy
     · rw [List.mem_singleton.1 hy];exact b6v _
   · exact h
 exact key l [] (by simp)
theorem c3h (t:Tx):b0o 1048576 (a49 t).1:=by
 have hz:b0o 1048576 a4j:=⟨by simp [a4j],by simp [a4j],by simp [a4j]⟩
 unfold a49
 split
 · exact hz
 split
 · exact hz
 rename_i h1 h2
 have h0:(rtG (a1y t).1).2=0:=Classical.not_not.1 h2
 have hg:=a65 t
 generalize (a1y t).1=j at *
 unfold rtG at h0 ⊢
 by_cases hk:j.kind=6
 rotate_left
 · rw [if_pos hk] at h0;exact absurd h0 (by decide)
 rw [if_neg (fun h=>h hk)] at h0 ⊢
 split at h0
 · simp at h0
 rename_i e1
 rw [if_neg e1]
 split at h0
 · simp at h0
 rename_i e2
 rw [if_neg e2]
 split at h0
 · simp at h0
 rename_i e3
 rw [if_neg e3]
 have htx:=c29 (hg hk) Z9
 refine ⟨?_,?_,fun y hy=>?_⟩
 · show (if (R2 j Z9).2=true then (R2 j Z9).1.text else a02).length≤1048576
   split
   · omega
   · simp [a02]
 · show (P5 (R2 j a0d).1.items).length≤1048576
   replace h0:rtC (P5 (R2 j a0d).1.items).length=0:=h0
   unfold rtC at h0
   split at h0
   · exact absurd h0 (by decide)
   split at h0
   · exact absurd h0 (by decide)
   · omega
 · have:=b8b _ y hy
   exact Nat.le_trans this (by omega)
theorem a8x (t:Tx) (hb:t.length≤9223372036854775807):z6 Tryz.prog 9 [.val (tx t)] (.ret (.val (.bool true)) []) []:=by
 refine K4 mixed ok9 rfl (fun _=>rfl) ?_
 unfold ir9
 rw [d9]
 by_cases hz:t.length≤1048576
 rotate_left
 · have hz':(1048576:Int) < (t.length:Int):=by omega
   simp [w8,J8,P1,b9,q8,tx,num,b7,hz']
 have hz':¬ (1048576:Int) < (t.length:Int):=by omega
 have hsp:=b2p t hz
 have hip:=b15 t
 have hbd:=c3h t
 obtain ⟨⟨g,c0⟩,hR⟩:∃ R,a49 t=R:=⟨_,rfl⟩
 rw [hR] at hsp hip hbd
 simp only [] at hsp hip hbd
 have hlen:g.targets.length≤1048576:=hbd.2.1
 have heq:=c2m g hbd
 have hm:=b57 g 1 (by omega) hlen
 have hh:=b58 g.age g.name g.targets.length 1 (by omega) hlen
 obtain ⟨m1,hm1⟩:∃ m,1+3*g.targets.length=m:=⟨_,rfl⟩
 rw [hm1] at hm hh
 have hne2:¬ (m1:Int) < 0:=by omega
 unfold Z1 at hsp heq
 unfold gV at hip
 unfold gP at hm
 obtain ⟨rw0,hrw⟩:∃ l,g.targets.map J9=l:=⟨_,rfl⟩
 obtain ⟨rk0,hrk⟩:∃ l,(mkL S8 3 g.targets.length 1).map J9=l:=⟨_,rfl⟩
 rw [hrw] at hsp hip heq hm
 rw [hrk] at hm hh
 simp [w8,J8,P1,b9,q8,tx,num,b7,hz']
 refine P7 rfl rfl (.inl rfl) hsp ?_
 simp [tx,num,b8,PV.kill,PV.killL]
 refine b7s rfl rfl rfl (.inl rfl) hip ?_
 simp [b8,tx,num,PV.shift,PV.shiftL,P3,PV.kill,PV.killL]
 refine f6 rfl rfl (.inr rfl) heq ?_
 simp [b8,tx,num,PV.kill,PV.killL]
 refine rowC rfl rfl rfl rfl hm rfl ?_
 simp [b8,tx,num,PV.kill,PV.killL,hne2]
 refine f6 rfl rfl (.inr rfl) hh ?_
 simp [b8,tx,num,PV.kill,PV.killL,hne2]
 refine b7s rfl rfl rfl (.inl rfl) hip ?_
 simp [b8,tx,num,PV.kill,PV.killL,PV.shift,PV.shiftL,P3]
 refine f6 rfl rfl (.inr rfl) heq ?_
 simp [b8,tx,num,PV.kill,PV.killL]
 refine f6 rfl rfl (.inr rfl) hh ?_
 simp [b8,tx,num,PV.kill,PV.killL,hne2]
end Go.Proofs
end
