/- Cb: merged out of KSk, KSm. -/
import Derived.Test.YtapjdgcfakhpaaaGreatDoorCa
import Derived.Test.YtapjdgcfakhpaaaGreatDoorAc
import Derived.Test.YtapjdgcfakhpaaaGreatDoorBa
set_option linter.unusedSectionVars false
set_option linter.unusedSimpArgs false
set_option linter.unusedVariables false
set_option maxRecDepth 100000
section
namespace Go.Proofs
open Go.PW Go.KP
attribute [local simp] RV.cells RV.one PV.cells PV.solid PV.one w5 i6 n7 n6 RV.ofCells elems PV.killL
variable [GF]
theorem b79 (t:Tx) (ht:t.length < 1099511627776):f7 Tryz.prog 189 [.val (tx t)] (.ret (S5 (a6d t)) []) []:=by
 refine f9 mixed ok189 rfl (fun _=>rfl) ?_
 unfold ir189
 rw [b9]
 have hsm:=b26 ht
 have hp:=b8a t ht
 unfold a6d
 generalize A9 t=r at *
 obtain ⟨u,b⟩:=r
 simp only at hsm ⊢
 simp [d9,j4,l0,b7,d8,tx]
 refine a4x rfl rfl (fun _=>rfl) rfl (.inl rfl) hp ?_
 simp [a2u,R7,tx,num]
 cases b with
 | false=>simp [S5,tx,bs]
 | true=>
  simp
  refine d7 rfl rfl (.inl rfl) (a7b u.scheme) ?_
  cases hw:W5 u.scheme with
  | false=>simp [S5,tx,bs]
  | true=>
   simp
   have hs2:LUrl.Small { u with frag:=[],hasF:=false }:=⟨hsm.1,hsm.2.1,hsm.2.2.1,hsm.2.2.2.1,hsm.2.2.2.2.1,by simp,hsm.2.2.2.2.2.2⟩
   refine d7 rfl rfl (.inl rfl) (b2c { u with frag:=[],hasF:=false } hs2) ?_
   simp [S5,tx]
theorem a4j {c:UInt8} (h:v6 c=true):a0e c=true:=by simp [a0e,h]
theorem c0w (t:Tx) (ht:t.length < 1099511627776):f7 Tryz.prog 124 [.val (tx t)] (.ret (.val (.bool (Y8 t))) []) []:=by
 refine f9 mixed ok124 rfl (fun _=>rfl) ?_
 unfold ir124
 rw [b9]
 simp [d9,j4,l0,b7,d8,tx,b6]
 refine d7 rfl rfl (.inl rfl) (a7c .i64 t.length 1 24) ?_
 by_cases hlen:1≤t.length∧t.length≤24
 rotate_left
 · rw [show decide ((1:Int)≤t.length∧(t.length:Int)≤24)=false from decide_eq_false (by omega)]
   have:Y8 t=false:=by unfold Y8;rw [decide_eq_false hlen];rfl
   simp [this]
 rw [show decide ((1:Int)≤t.length∧(t.length:Int)≤24)=true from decide_eq_true (by omega)]
 have hw:Y8 t=R5 v6 a0e t:=by unfold Y8;rw [decide_eq_true hlen];rfl
 simp
 refine l4 (X:=Nat) (fun i=>⟨u0 [(0,.val (.str (bs t))),(3,.val (.int .i64 i))],u4 []⟩) (fun i=>i≤t.length∧R5 v6 a0e (t.take i)=true) (fun i=>t.length - i) 0 (Le.mk _ _ ?_ ?_) ?_ ?_
 · simp [upd]
 · simp
 · simp [R5]
 · rintro i ⟨hi,hall⟩
   simp [b6,f6]
   refine i7 (fun h3=>?_) (fun h3=>?_)
   · have hstep:=a0s (p:=v6) (q:=a0e) (fun _ h=>a4j h) t i h3
     rw [hall,Bool.true_and] at hstep
     have U4:=Z1 (p:=v6) (q:=a0e) t i h3
     have e1:((t[i].toNat:Int) < 97)↔t[i].toNat < 97:=by omega
     have e2:((122:Int) < t[i].toNat)↔122 < t[i].toNat:=by omega
     have e3:((t[i].toNat:Int)=45)↔t[i].toNat=45:=by omega
     have hgood:(if i=0 then v6 t[i] else a0e t[i])=true→∀ st':St,st'.env 0=.val (.str (bs t))→st'.env 3=.val (.int .i64 (IntKind.i64.wrap ((i:Int)+1))) →
      ∃ x',(x'≤t.length∧R5 v6 a0e (t.take x')=true)∧t.length - x' < t.length - i∧Le st' ⟨u0 [(0,.val (.str (bs t))),(3,.val (.int .i64 (x':Int)))],u4 []⟩:=fun hg st' q1 q2=>by
      refine ⟨i+1,⟨by omega,by rw [hstep,hg]⟩,by omega,Le.mk _ _ ?_ ?_⟩
      · simp [q1,q2];exact wrap_i64 (by omega) (by omega)
      · simp
     have hres:(if i=0 then v6 t[i] else a0e t[i])=false→Y8 t=false:=fun h=>by rw [hw];exact U4 h
     by_cases a4:i=0
     · rw [if_pos a4] at hgood hres
       by_cases a1:t[i].toNat < 97
       · have hr:=hres (by simp [v6];omega)
         by_cases a3:t[i].toNat=45
         · simp [b6,f6,h3,e1,e3,a1,a3,(eq_true a4:(i=0)=True),hr]
         · simp [b6,f6,h3,e1,e3,a1,a3,hr]
       · by_cases a2:122 < t[i].toNat
         · have hr:=hres (by simp [v6];omega)
           have a3:¬ t[i].toNat=45:=by omega
           simp [b6,f6,h3,e1,e2,e3,a1,a2,a3,hr]
         · simp [b6,f6,h3,e1,e2,e3,a1,a2]
           exact hgood (by simp [v6];omega) _ (by simp) (by simp)
     · rw [if_neg a4] at hgood hres
       by_cases a1:t[i].toNat < 97
       · by_cases a3:t[i].toNat=45
         · simp [b6,f6,h3,e1,e3,a1,a3,a4]
           exact hgood (by simp [a0e,a3]) _ (by simp) (by simp)
         · have hr:=hres (by simp [a0e,v6,a3];omega)
           simp [b6,f6,h3,e1,e3,a1,a3,hr]
       · by_cases a2:122 < t[i].toNat
         · have a3:¬ t[i].toNat=45:=by omega
           have hr:=hres (by simp [a0e,v6,a3];omega)
           simp [b6,f6,h3,e1,e2,e3,a1,a2,a3,hr]
         · simp [b6,f6,h3,e1,e2,e3,a1,a2]
           exact hgood (by simp [a0e,v6];omega) _ (by simp) (by simp)
   · have e:i=t.length:=by omega
     subst e
     rw [List.take_length] at hall
     simp [hw,hall]
theorem b78 (c:UInt8):f7 Tryz.prog 188 [.val (rvb c)] (.ret (.val (.bool (decide (c.toNat=32∨c.toNat=9)))) []) []:=by
 refine f9 mixed ok188 rfl (fun _=>rfl) ?_
 unfold ir188
 rw [b9]
 have e1:((c.toNat:Int)=32)↔c.toNat=32:=by omega
 have e2:((c.toNat:Int)=9)↔c.toNat=9:=by omega
 by_cases h1:c.toNat=32<;>by_cases h2:c.toNat=9<;>simp [d9,j4,l0,b7,d8,rvb,e1,e2,h1,h2]
def a0i (c:UInt8):Bool:=!decide (c.toNat=32∨c.toNat=9∨c.toNat=59)
theorem a58 (w:Tx):T5 w=(decide (w≠[]) && w.all a0i):=rfl
theorem c0v (t:Tx) (ht:t.length < 1099511627776):f7 Tryz.prog 126 [.val (tx t)] (.ret (.val (.bool (T5 t))) []) []:=by
 refine f9 mixed ok126 rfl (fun _=>rfl) ?_
 unfold ir126
 rw [b9]
 simp [d9,j4,l0,b7,d8,tx,b6]
 refine l4 (X:=Nat) (fun i=>⟨u0 [(0,.val (.str (bs t))),(3,.val (.int .i64 i))],u4 []⟩) (fun i=>i≤t.length∧(t.take i).all a0i=true) (fun i=>t.length - i) 0 (Le.mk _ _ ?_ ?_) ?_ ?_
 · simp [upd]
 · simp
 · simp
 · rintro i ⟨hi,hall⟩
   simp [b6,f6]
   refine i7 (fun h3=>?_) (fun h3=>?_)
   · have hstep:=O0 t a0i i h3
     rw [hall,Bool.true_and] at hstep
     have U4:a0i t[i]=false→T5 t=false:=fun h=>by
      rw [a58]
      have:t.all a0i=false:=by rw [List.all_eq_false];exact ⟨t[i],List.getElem_mem h3,by simp [h]⟩
      rw [this,Bool.and_false]
     have e3:((t[i].toNat:Int)=59)↔t[i].toNat=59:=by omega
     simp [b6,f6,h3]
     refine d7 rfl rfl (.inl rfl) (b78 t[i]) ?_
     by_cases a1:t[i].toNat=32∨t[i].toNat=9
     · have hb:=U4 (by unfold a0i;simp;omega)
       rw [decide_eq_true a1]
       simp [hb]
     · rw [decide_eq_false a1]
       by_cases a2:t[i].toNat=59
       · have hb:=U4 (by unfold a0i;simp;omega)
         simp [b6,f6,h3,a2,hb]
       · simp [b6,f6,h3,e3,a2]
         refine LoopNext.mk (i+1) ⟨by omega,by rw [hstep];unfold a0i;simp;omega⟩ (by omega) (Le.mk _ _ ?_ ?_)
         · simp;exact wrap_i64 (by omega) (by omega)
         · simp
   · have e:i=t.length:=by omega
     subst e
     rw [List.take_length] at hall
     rw [a58,hall,Bool.and_true]
     by_cases h0:t=[]
     · subst h0;simp [b6]
     · have:0 < t.length:=List.length_pos_iff.2 h0
       simp [b6,h0,this]
theorem b3t (l:List LRule) (name:Tx) (hl:l.length < 1099511627776):f7 Tryz.prog 125 [.val (.list 2 (l.map j5)),.val (tx name)] (.ret (.val (num (a2o l fun r=>decide (r.name=name)))) []) []:=by
 refine f9 mixed ok125 rfl (fun _=>rfl) ?_
 unfold ir125
 rw [b9]
 simp [d9,j4,l0,b7,d8,num]
 refine l4 (X:=Nat) (fun i=>⟨u0 [(0,.val (.list 2 (l.map j5))),(1,.val (tx name)),(5,.val (num i))],u4 []⟩) (fun i=>i≤l.length∧∀ k (hk:k < i) (hk':k < l.length),l[k].name≠name) (fun i=>l.length - i) 0 (Le.mk _ _ ?_ ?_) ?_ ?_
 · simp [upd,num]
 · simp
 · simp
 · rintro i ⟨hi,hne⟩
   simp [num]
   refine i7 (fun h1=>?_) (fun h1=>?_)
   · have e1:(l.map j5)[i]?.getD .nilptr=j5 l[i]:=by simp [List.getElem?_eq_getElem h1]
     simp [num,h1,e1,j5,tx,u5]
     by_cases hu:l[i].name=name
     · have hh:a2o l (fun r=>decide (r.name=name))=i:=a22 h1 (by simp [hu]) (fun k hk=>by simp [hne k hk (by omega)])
       simp [hu,hh,num]
     · simp [hu]
       refine LoopNext.mk (i+1) ⟨by omega,fun k hk hk'=>?_⟩ (by omega) (Le.mk _ _ ?_ ?_)
       · by_cases e:k=i
         · subst e;exact hu
         · exact hne k (by omega) hk'
       · simp [num,tx];exact wrap_i64 (by omega) (by omega)
       · simp
   · have e:i=l.length:=by omega
     have hh:a2o l (fun r=>decide (r.name=name))=-1:=a2z (fun k hk=>by simp [hne k (by omega) hk])
     simp [hh,num]
theorem c22 (l:List Tx) (t:Tx) (hl:l.length < 1099511627776):f7 Tryz.prog 190 [.val (.list 1 (l.map tx)),.val (tx t)] (.ret (.val (.bool (decide (t∈l)))) []) []:=by
 refine f9 mixed ok190 rfl (fun _=>rfl) ?_
 unfold ir190
 rw [b9]
 simp [d9,j4,l0,b7,d8,num]
 refine l4 (X:=Nat) (fun i=>⟨u0 [(0,.val (.list 1 (l.map tx))),(1,.val (tx t)),(5,.val (num i))],u4 []⟩) (fun i=>i≤l.length∧t∉l.take i) (fun i=>l.length - i) 0 (Le.mk _ _ ?_ ?_) ?_ ?_
 · simp [upd,num]
 · simp
 · simp
 · rintro i ⟨hi,hne⟩
   simp [num]
   refine i7 (fun h1=>?_) (fun h1=>?_)
   · have e1:(l.map tx)[i]?.getD .nilptr=tx l[i]:=by simp [List.getElem?_eq_getElem h1]
     simp [num,h1,e1,tx,u5]
     by_cases hu:l[i]=t
     · have:t∈l:=by rw [← hu];exact List.getElem_mem h1
       simp [hu,this]
     · simp [hu]
       refine LoopNext.mk (i+1) ⟨by omega,?_⟩ (by omega) (Le.mk _ _ ?_ ?_)
       · rw [List.take_add_one,List.getElem?_eq_getElem h1,List.mem_append]
         rintro (e | e)
         · exact hne e
         · exact hu (by simpa using e:t=l[i]).symm
       · simp [num,tx];exact wrap_i64 (by omega) (by omega)
       · simp
   · have e:i=l.length:=by omega
     subst e
     rw [List.take_length] at hne
     simp [hne]
theorem b00 (a b:List Tx) (ha:a.length < 1099511627776) (hb:b.length < 1099511627776):f7 Tryz.prog 128 [.val (.list 1 (a.map tx)),.val (.list 1 (b.map tx))] (.ret (.val (.bool (decide (a=b)))) []) []:=by
 refine f9 mixed ok128 rfl (fun _=>rfl) ?_
 unfold ir128
 rw [b9]
 by_cases hlen:a.length=b.length
 rotate_left
 · have h1:¬ (a.length:Int)=b.length:=by omega
   have h2:a≠b:=fun e=>hlen (by rw [e])
   simp [d9,j4,l0,b7,d8,h1,h2]
 simp [d9,j4,l0,b7,d8,num,hlen]
 refine l4 (X:=Nat) (fun i=>⟨u0 [(0,.val (.list 1 (a.map tx))),(1,.val (.list 1 (b.map tx))),(5,.val (num i))],u4 []⟩) (fun i=>i≤a.length∧a.take i=b.take i) (fun i=>a.length - i) 0 (Le.mk _ _ ?_ ?_) ?_ ?_
 · simp [upd,num]
 · simp
 · simp
 · rintro i ⟨hi,heq⟩
   simp [num]
   refine i7 (fun h1=>?_) (fun h1=>?_)
   · have h1b:i < b.length:=by omega
     have e1:(a.map tx)[i]?.getD .nilptr=tx a[i]:=by simp [List.getElem?_eq_getElem h1]
     have e2:(b.map tx)[i]?.getD .nilptr=tx b[i]:=by simp [List.getElem?_eq_getElem h1b]
     simp [num,h1,h1b,e1,e2,tx,u5]
     by_cases hu:a[i]=b[i]
     · simp [hu]
       refine LoopNext.mk (i+1) ⟨by omega,?_⟩ (by omega) (Le.mk _ _ ?_ ?_)
       · rw [List.take_add_one,List.take_add_one,List.getElem?_eq_getElem h1,List.getElem?_eq_getElem h1b,heq,hu]
       · simp [num,tx];exact wrap_i64 (by omega) (by omega)
       · simp
     · have h2:a≠b:=fun e=>hu (by subst e;rfl)
       simp [hu,h2]
   · have e:i=a.length:=by omega
     subst e
     rw [List.take_length,hlen,List.take_length] at heq
     simp [heq]
end Go.Proofs
end
section
namespace Go.Proofs
open Go.PW Go.KP
attribute [local simp] RV.cells RV.one PV.cells PV.solid PV.one w5 i6 n7 n6 RV.ofCells elems PV.killL
variable [GF]
structure MK (st:St) (rules:List LRule) (rt:Tx) (acc:List Tx):Prop where
 e0:st.env 0=.val (.list 2 (rules.map j5))
 e2:st.env 2=.ptr 2 0
 e3:st.env 3=.ptr 3 0
 m2:st.mem 2=.box [.val (tx []),.emp 1,.emp 2]
 m3:st.mem 3=.box [.val (tx rt),.own 9,.val (.list 2 (rules.map j5))]
 m9:st.mem 9=.row 9 1 (acc.map tx)
theorem b0b (rules:List LRule) (rt:Tx) (acc:List Tx) (st:St) (h:MK st rules rt acc):EC Tryz.prog ir127_from4 st (K:=⟨Y9 [.c 2 true 3] (.val (j8 ⟨rt,acc,rules⟩))⟩):=by
 unfold ir127_from4
 simp [h.e2,h.e3,h.m2,h.m3,h.m9,tx]
 refine (b2n (id:=2) (n:=3) (cs:=[.val (tx rt),.own 9,.val (.list 2 (rules.map j5))]) (rs:=[tx rt,.list 1 (acc.map tx),.list 2 (rules.map j5)]) ?_ ?_ ?_ rfl (by omega)).trans ?_
 · simp [h.e2]
 · simp
   rfl
 · simp [PV.frzL,PV.frz,PV.plL,PV.pl,a0t,h.m9,tx]
 · simp [n7,i6,j8]
theorem a3p (rules:List LRule) (hr:bdS 1048576 (R6 1048576) rules) (rt:Tx) (st:St) (h:MK st rules rt []):EC Tryz.prog ir127_from3 st (K:=⟨Y9 [.c 2 true 3] (.val (j8 ⟨rt,a0l rules,rules⟩))⟩):=by
 unfold ir127_from3
 have hrl:=hr.1
 simp [h.e0,h.e2,h.e3,h.m2,h.m3,h.m9]
 refine d7 rfl rfl (.inl rfl) (b3t rules W9 (by omega)) ?_
 rcases a7u rules (fun r=>decide (r.name=W9)) with ⟨k1,k2⟩ | ⟨k,hk,k1,k2⟩
 · rw [k1]
   have e:a0l rules=[]:=by unfold a0l O3;rw [k2];rfl
   rw [e]
   simp [num]
   refine b0b rules rt [] _ ⟨?_,?_,?_,?_,?_,?_⟩<;>simp [h.e0,h.e2,h.e3,h.m2,h.m3,h.m9]
 · rw [k1]
   have e:a0l rules=rules[k].words.foldl v8 []:=by unfold a0l O3;rw [k2]
   rw [e]
   have hb:=(hr.2 _ (List.getElem_mem hk)).2
   obtain ⟨r,hrk⟩:∃ r,rules[k]=r:=⟨_,rfl⟩
   rw [hrk] at hb k2 ⊢
   have hwl:=hb.1
   simp [num]
   refine l4 (X:=Nat) (fun i=>⟨u0 [(0,.val (.list 2 (rules.map j5))),(2,.ptr 2 0),(3,.ptr 3 0),(5,.val (num k)),(6,.val (num i))],u4 [(2,.box [.val (tx []),.emp 1,.emp 2]),(3,.box [.val (tx rt),.own 9,.val (.list 2 (rules.map j5))]),(9,.row 9 1 (((r.words.take i).foldl v8 []).map tx))]⟩) (fun i=>i≤r.words.length) (fun i=>r.words.length - i) 0 (Le.mk _ _ ?_ ?_) ?_ ?_
   · simp [upd,num,h.e0,h.e2,h.e3]
   · simp [h.m2,h.m3,h.m9]
   · simp
   · intro i hi
     simp [num,hk,hrk,j5]
     refine i7 (fun h1=>?_) (fun h1=>?_)
     · have e1:(r.words.map tx)[i]?.getD .nilptr=tx r.words[i]:=by simp [List.getElem?_eq_getElem h1]
       have hwi:r.words[i].length≤1048576:=hb.2 _ (List.getElem_mem h1)
       have hst:=a33 v8 [] r.words i h1
       have hal:((r.words.take i).foldl v8 []).length≤4:=a36 _ _ (by simp)
       generalize (r.words.take i).foldl v8 []=acc at *
       simp [num,hk,hrk,j5,h1,e1,tx]
       refine a4x rfl rfl (fun _=>rfl) rfl (.inl rfl) (b79 r.words[i] (by omega)) ?_
       cases hc:a6d r.words[i] with
       | none=>
        have hu:v8 acc r.words[i]=acc:=by unfold v8;rw [hc]
        rw [hu] at hst
        simp [S5]
        refine LoopNext.mk (i+1) (by omega) (by omega) (Le.mk _ _ ?_ ?_)
        · simp [num];exact wrap_i64 (by omega) (by omega)
        · simp [hst,tx]
       | some u=>
        simp [S5]
        refine d7 rfl rfl (.inr rfl) (c22 acc u (by omega)) ?_
        by_cases hm:u∈acc
        · have hu:v8 acc r.words[i]=acc:=by unfold v8;rw [hc];simp [hm]
          rw [hu] at hst
          simp [hm]
          refine LoopNext.mk (i+1) (by omega) (by omega) (Le.mk _ _ ?_ ?_)
          · simp [num];exact wrap_i64 (by omega) (by omega)
          · simp [hst,tx]
        · by_cases h4:acc.length < 4
          · have hu:v8 acc r.words[i]=acc++[u]:=by unfold v8;rw [hc];simp [hm,h4]
            rw [hu] at hst
            have h4':(acc.length:Int) < 4:=by omega
            simp [hm,h4,h4',tx]
            refine ⟨by omega,by omega,LoopNext.mk (i+1) (by omega) (by omega) (Le.mk _ _ ?_ ?_)⟩
            · simp [num];exact wrap_i64 (by omega) (by omega)
            · simp [hst,tx]
          · have hu:v8 acc r.words[i]=acc:=by unfold v8;rw [hc];simp [h4]
            rw [hu] at hst
            have h4':¬ (acc.length:Int) < 4:=by omega
            simp [hm,h4,h4']
            refine LoopNext.mk (i+1) (by omega) (by omega) (Le.mk _ _ ?_ ?_)
            · simp [num];exact wrap_i64 (by omega) (by omega)
            · simp [hst,tx]
     · have e9:i=r.words.length:=by omega
       subst e9
       simp
       refine b0b rules rt _ _ ⟨?_,?_,?_,?_,?_,?_⟩<;>simp
theorem c0x (rules:List LRule) (hr:bdS 1048576 (R6 1048576) rules):f7 Tryz.prog 127 [.val (.list 2 (rules.map j5))] (.ret (.val (j8 ⟨a0m rules,a0l rules,rules⟩)) []) []:=by
 refine f9 mixed ok127 rfl (fun _=>rfl) ?_
 unfold ir127
 rw [b9]
 have hrl:=hr.1
 simp [d9,j4,l0,b7,d8,PV.kill]
 refine d7 rfl rfl (.inl rfl) (b3t rules a01 (by omega)) ?_
 rcases a7u rules (fun r=>decide (r.name=a01)) with ⟨k1,k2⟩ | ⟨k,hk,k1,k2⟩
 · rw [k1]
   have e:a0m rules=[]:=by unfold a0m O3;rw [k2];rfl
   rw [e]
   simp [num]
   refine a3p rules hr [] _ ⟨?_,?_,?_,?_,?_,?_⟩<;>simp [tx,bs]
 · rw [k1]
   have hb:=(hr.2 _ (List.getElem_mem hk)).2
   obtain ⟨r,hrk⟩:∃ r,rules[k]=r:=⟨_,rfl⟩
   rw [hrk] at hb k2
   have e0:a0m rules=a10 r.words:=by unfold a0m O3;rw [k2]
   rw [e0]
   simp [num,hk,hrk,j5]
   cases hw:r.words with
   | nil=>
    rw [show a10 []=[] from rfl]
    simp
    refine a3p rules hr [] _ ⟨?_,?_,?_,?_,?_,?_⟩<;>simp [tx,bs]
   | cons w ws=>
    have hwl:w.length≤1048576:=hb.2 w (by rw [hw];simp)
    simp [hk,hrk,j5,hw,tx]
    refine d7 rfl rfl (.inl rfl) (c00 w (by omega)) ?_
    have e1:a10 (w :: ws)=if a0d w then w else []:=rfl
    rw [e1]
    cases hlw:a0d w with
    | false=>
     rw [if_neg (by simp)]
     simp
     refine a3p rules hr [] _ ⟨?_,?_,?_,?_,?_,?_⟩<;>simp [tx,bs]
    | true=>
     rw [if_pos rfl]
     simp [hk,hrk,j5,hw,tx]
     refine a3p rules hr w _ ⟨?_,?_,?_,?_,?_,?_⟩<;>simp [tx,bs]
structure OKS (st:St) (p:LPolicy) (i:Nat):Prop where
 e1:st.env 1=.ptr 1 0
 e3:st.env 3=.val (num i)
 m1:st.mem 1=.box [.val (tx p.reportTo),.val (.list 1 (p.uris.map tx)),.val (.list 2 (p.rules.map j5))]
theorem okpol_words {K:Kx (PExit→St→Prop)} {st:St} {p:LPolicy} {i:Nat} {r:LRule} (hb:R6 1048576 r) (h:OKS st p i) (h4:st.env 4=.ptr 4 0) (h5:st.env 5=.val (num 0)) (m4:st.mem 4=.box [.val (tx r.name),.val (.list 1 (r.words.map tx))])
 (hK:∀ st',OKS st' p i→r.words.all T5=true→K.k .normal st') (hR:∀ st',st'.env 2=.val (.bool false)→r.words.all T5=false→K.k .ret st') :
 EC Tryz.prog ir68_s42 st (K:=K):=by
 unfold ir68_s42
 have hwl:=hb.2.1
 simp only [z7,H0,A0,G8,A1,t8,z8,G9,o0,C0,I4,I5,k9,r8,r9,m8,A2,t7,n5,G7,z6,t6,s8,E9,F0,a27,a28,Option.getD_some,Option.getD_none,D5,u7,q7,E6,p9,o8,E8,o9,E7,E5,E4,I9,x8,p7,E2,x6,p6,E1,D3,E3,x7,D8,o7,x5,D9,J1,J0,D4,D6,p5,D7,x9,p8,C3,o2,D2,D1,D0,I6,x3,o4,C8,x1,o3,C7,C1,C9,x2,C5,o1,w9,C6,I8,I7,C2,w8,o6,C4,x4,o5,L2,K9,M3,L3,L7,L5,L4,M2,L6,L8,L9,M0,M1,A6,A5,A4,O5,O6,u2,H1,u9,F4,y4,M6,u1,U8,P0,M8,Q3,Q5,Q4,U9,V0,K2,K4,K3,K5,K6,Q0,y6,P9,F5,F6,F7,y7,a3d,G4,z1,U6,U7,J2,O7,O8,Option.map_some,Option.map_none,F8,y8,y0,q8,F2,F3,J4,J3,R0,Q9,K8,G5,G6,K7,Q6,Q7,J6,r6,J7,q9,P4,G3,G2,n0,Q2,Q8,J9,P6,P8,P7,y5,B7,B9,B8,l5,Q1,V2,V1,P1,J8,a0g,P2,r7,G0,G1,y9,F9,l9,w6,l7,w7,l6,M5,R1,R2,A7,A8,H3,H2,F1]
 refine l4 (X:=Nat) (fun j=>⟨u0 [(1,.ptr 1 0),(3,.val (num i)),(4,.ptr 4 0),(5,.val (num j))],u4 [(1,.box [.val (tx p.reportTo),.val (.list 1 (p.uris.map tx)),.val (.list 2 (p.rules.map j5))]),(4,.box [.val (tx r.name),.val (.list 1 (r.words.map tx))])]⟩) (fun j=>j≤r.words.length∧(r.words.take j).all T5=true) (fun j=>r.words.length - j) 0 (Le.mk _ _ ?_ ?_) ?_ ?_
 · simp [h.e1,h.e3,h4,h5]
 · simp [h.m1,m4]
 · simp
 · rintro j ⟨hj,hall⟩
   unfold ir68_l42
   simp [num]
   refine i7 (fun h1=>?_) (fun h1=>?_)
   · have e1:(r.words.map tx)[j]?.getD .nilptr=tx r.words[j]:=by simp [List.getElem?_eq_getElem h1]
     have hwj:r.words[j].length≤1048576:=hb.2.2 _ (List.getElem_mem h1)
     have hst:(r.words.take (j+1)).all T5=((r.words.take j).all T5 && T5 r.words[j]):=O0 _ _ _ h1
     rw [hall,Bool.true_and] at hst
     simp [num,h1,e1,tx]
     refine d7 rfl rfl (.inl rfl) (c0v r.words[j] (by omega)) ?_
     cases hw:T5 r.words[j] with
     | false=>
      simp
      refine hR _ (by simp) ?_
      rw [List.all_eq_false]
      exact ⟨r.words[j],List.getElem_mem h1,by simp [hw]⟩
     | true=>
      simp
      refine LoopNext.mk (j+1) ⟨by omega,by rw [hst,hw]⟩ (by omega) (Le.mk _ _ ?_ ?_)
      · simp [num];exact wrap_i64 (by omega) (by omega)
      · simp [tx]
   · have e:j=r.words.length:=by omega
     subst e
     rw [List.take_length] at hall
     simp
     refine hK _ ⟨?_,?_,?_⟩ hall<;>simp [num,tx]
theorem okpol_from3 (p:LPolicy) (hb:M4 1048576 p) (i:Nat) (st:St) (h:OKS st p i):EC Tryz.prog ir68_from3 st (K:=⟨Y9 [.t 2] (.val (.bool (decide (p.reportTo=a0m p.rules) && decide (p.uris=a0l p.rules))))⟩):=by
 unfold ir68_from3
 have hul:=hb.2.1.1
 have hl4:=a36 (O3 p.rules W9) [] (by simp)
 simp [h.e1,h.m1]
 refine d7 rfl rfl (.inl rfl) (c0x p.rules hb.2.2) ?_
 simp [j8,tx,u5,h.e1,h.m1,PV.kill]
 by_cases hr:p.reportTo=a0m p.rules
 · rw [← hr]
   simp [h.e1,h.m1,PV.kill]
   refine d7 rfl rfl (.inl rfl) (b00 p.uris (a0l p.rules) (by omega) (by unfold a0l;omega)) ?_
   simp
 · simp [hr]
theorem a65 (p:LPolicy) (h:(p.rules.all P3 && a2y (p.rules.map fun r=>r.name))=true) (h8:p.rules.length≤8):J5 p=(decide (p.reportTo=a0m p.rules) && decide (p.uris=a0l p.rules)):=by
 unfold J5;rw [h,decide_eq_true h8];rfl
theorem a5s (p:LPolicy) (i:Nat) (hi:i < p.rules.length) (h:(P3 p.rules[i] && decide ((p.rules[i]).name∉(p.rules.map fun r=>r.name).take i))=false):J5 p=false:=by
 unfold J5
 rw [Bool.and_eq_false_iff] at h
 have:(p.rules.all P3 && a2y (p.rules.map fun r=>r.name))=false:=by
  rw [Bool.and_eq_false_iff]
  rcases h with h | h
  · exact .inl (List.all_eq_false.2 ⟨_,List.getElem_mem hi,by simp [h]⟩)
  · refine .inr (b4w _ (i+1) ?_)
    rw [a6a _ i (by simpa using hi)]
    simp only [List.getElem_map]
    rw [h,Bool.and_false]
 rw [this];simp
theorem c_l04OK (p:LPolicy) (hb:M4 1048576 p):f7 Tryz.prog 68 [.val (j8 p)] (.ret (.val (.bool (J5 p))) []) []:=by
 refine f9 mixed ok68 rfl (fun _=>rfl) ?_
 unfold ir68
 rw [b9]
 have hrl:=hb.2.2.1
 by_cases h8:p.rules.length≤8
 rotate_left
 · have h8':(8:Int) < p.rules.length:=by omega
   have:J5 p=false:=by unfold J5;rw [decide_eq_false h8];rfl
   simp [d9,j4,l0,b7,d8,j8,tx,h8',this]
 have h8':¬ (8:Int) < p.rules.length:=by omega
 simp [d9,j4,l0,b7,d8,j8,tx,h8']
 refine l4 (X:=Nat) (fun i=>⟨u0 [(1,.ptr 1 0),(3,.val (num i))],u4 [(1,.box [.val (tx p.reportTo),.val (.list 1 (p.uris.map tx)),.val (.list 2 (p.rules.map j5))])]⟩) (fun i=>i≤p.rules.length∧((p.rules.take i).all P3 && a2y ((p.rules.map fun r=>r.name).take i))=true) (fun i=>p.rules.length - i) 0 (Le.mk _ _ ?_ ?_) ?_ ?_
 · simp [upd,num]
 · simp [tx]
 · simp [a2y]
 · rintro i ⟨hi,hall⟩
   unfold ir68_l11
   simp [num]
   refine i7 (fun h1=>?_) (fun h1=>?_)
   · have hbr:=hb.2.2.2 _ (List.getElem_mem h1)
     have hst:(p.rules.take (i+1)).all P3=((p.rules.take i).all P3 && P3 p.rules[i]):=O0 _ _ _ h1
     have hst2:=a6a (p.rules.map fun r=>r.name) i (by simpa using h1)
     simp only [List.getElem_map] at hst2
     have U4:=a5s p i h1
     have hself:=b98 (fun r:LRule=>r.name) p.rules i h1
     rw [Bool.and_eq_true] at hall
     rw [hall.1,Bool.true_and] at hst
     rw [hall.2,Bool.true_and] at hst2
     obtain ⟨r,hrk⟩:∃ r,p.rules[i]=r:=⟨_,rfl⟩
     rw [hrk] at hbr hst hst2 U4
     simp only [hrk] at hself
     have hnl:r.name.length≤1048576:=hbr.1
     have hwl:r.words.length≤1048576:=hbr.2.1
     simp [num,h1,hrk,j5,tx,PV.kill]
     refine d7 rfl rfl (.inl rfl) (c0w r.name (by omega)) ?_
     cases hn:Y8 r.name with
     | false=>
      have hb2:=U4 (by unfold P3;rw [hn];rfl)
      simp [hb2]
     | true=>
      simp [num,h1,hrk,j5,tx,PV.kill]
      refine d7 rfl rfl (.inl rfl) (b3t p.rules r.name (by omega)) ?_
      by_cases hu:r.name∈(p.rules.map fun r=>r.name).take i
      · have hb2:=U4 (by rw [decide_eq_false (fun h=>h hu),Bool.and_false])
        have hne:¬ (a2o p.rules fun x=>decide (x.name=r.name))=(i:Int):=fun h=>hself.1 h hu
        simp [num,hb2,hne]
      · have heq:=hself.2 hu
        rw [decide_eq_true hu] at hst2
        by_cases hw8:r.words.length≤8
        rotate_left
        · have hb2:=U4 (by unfold P3;rw [decide_eq_false hw8];simp)
          have hw8':(8:Int) < r.words.length:=by omega
          simp [num,hb2,heq,hw8']
        · have hw8':¬ (8:Int) < r.words.length:=by omega
          simp [num,heq,hw8',PV.kill]
          refine okpol_words (p:=p) (i:=i) (r:=r) hbr ⟨?_,?_,?_⟩ ?_ ?_ ?_ (fun st' hs hall2=>?_) (fun st' h2 hall2=>?_)
          · simp
          · simp [num]
          · simp [tx]
          · simp
          · simp [num]
          · simp [tx]
          · have hok:P3 r=true:=by unfold P3;rw [hn,decide_eq_true hw8,hall2];rfl
            simp [hs.e1,hs.e3,num]
            refine LoopNext.mk (i+1) ⟨by omega,by rw [hst,hst2,hok];rfl⟩ (by omega) (Le.mk _ _ ?_ ?_)
            · simp [num,hs.e1];exact wrap_i64 (by omega) (by omega)
            · simp [hs.m1]
          · have hb2:=U4 (by unfold P3;rw [hall2];simp)
            simp [h2,hb2]
   · have e:i=p.rules.length:=by omega
     subst e
     rw [List.take_length,List.take_of_length_le (by simp)] at hall
     rw [a65 p hall h8]
     simp
     refine okpol_from3 p hb p.rules.length _ ⟨?_,?_,?_⟩<;>simp [num,tx]
end Go.Proofs
end
