/- Cb: merged out of KSk, KSm, KSw. -/
import Derived.Test.YtgdapgcjmfeocaaGreatDoorCa
import Derived.Test.YtgdapgcjmfeocaaGreatDoorAc
import Derived.Test.YtgdapgcjmfeocaaGreatDoorBa
set_option linter.unusedSectionVars false
set_option linter.unusedSimpArgs false
set_option linter.unusedVariables false
set_option maxRecDepth 100000
section
namespace Go.Proofs
open Go.PW Go.KP
attribute [local simp] RV.cells RV.one PV.cells PV.solid PV.one t8 f9 H0 A5 RV.ofCells elems PV.killL
variable [GF]
theorem c10 (t:Tx) (ht:t.length < 1099511627776):d8 Tryz.prog 148 [.val (tx t)] (.ret (W5 (a74 t)) []) []:=by
 refine f5 mixed ok148 rfl (fun _=>rfl) ?_
 unfold ir148
 rw [b7]
 have hsm:=a9c ht
 have hp:=b3l t ht
 unfold a74
 generalize A6 t=r at *
 obtain ⟨u,b⟩:=r
 simp only at hsm ⊢
 simp [d9,i6,j6,b8,d7,tx]
 refine a6u rfl rfl (fun _=>rfl) rfl (.inl rfl) hp ?_
 simp [a4u,V7,tx,num]
 cases b with
 | false=>simp [W5,tx,bs]
 | true=>
  simp
  refine b6 rfl rfl (.inl rfl) (a6x u.scheme) ?_
  cases hw:Z1 u.scheme with
  | false=>simp [W5,tx,bs]
  | true=>
   simp
   have hs2:LUrl.Small { u with frag:=[],hasF:=false }:=⟨hsm.1,hsm.2.1,hsm.2.2.1,hsm.2.2.2.1,hsm.2.2.2.2.1,by simp,hsm.2.2.2.2.2.2⟩
   refine b6 rfl rfl (.inl rfl) (b0a { u with frag:=[],hasF:=false } hs2) ?_
   simp [W5,tx]
theorem a6e {c:UInt8} (h:M7 c=true):a1x c=true:=by simp [a1x,h]
theorem c5q (t:Tx) (ht:t.length < 1099511627776):d8 Tryz.prog 107 [.val (tx t)] (.ret (.val (.bool (a1h t))) []) []:=by
 refine f5 mixed ok107 rfl (fun _=>rfl) ?_
 unfold ir107
 rw [b7]
 simp [d9,i6,j6,b8,d7,tx,b9]
 refine b6 rfl rfl (.inl rfl) (S6 .i64 t.length 1 24) ?_
 by_cases hlen:1≤t.length∧t.length≤24
 rotate_left
 · rw [show decide ((1:Int)≤t.length∧(t.length:Int)≤24)=false from decide_eq_false (by omega)]
   have:a1h t=false:=by unfold a1h;rw [decide_eq_false hlen];rfl
   simp [this]
 rw [show decide ((1:Int)≤t.length∧(t.length:Int)≤24)=true from decide_eq_true (by omega)]
 have hw:a1h t=V9 M7 a1x t:=by unfold a1h;rw [decide_eq_true hlen];rfl
 simp
 refine j7 (X:=Nat) (fun i=>⟨l8 [(0,.val (.str (bs t))),(3,.val (.int .i64 i))],l9 []⟩) (fun i=>i≤t.length∧V9 M7 a1x (t.take i)=true) (fun i=>t.length - i) 0 (Le.mk _ _ ?_ ?_) ?_ ?_
 · simp [upd]
 · simp
 · simp [V9]
 · rintro i ⟨hi,hall⟩
   simp [b9,j4]
   refine f6 (fun h3=>?_) (fun h3=>?_)
   · have hstep:=a2d (p:=M7) (q:=a1x) (fun _ h=>a6e h) t i h3
     rw [hall,Bool.true_and] at hstep
     have A1:=a1m (p:=M7) (q:=a1x) t i h3
     have e1:((t[i].toNat:Int) < 97)↔t[i].toNat < 97:=by omega
     have e2:((122:Int) < t[i].toNat)↔122 < t[i].toNat:=by omega
     have e3:((t[i].toNat:Int)=45)↔t[i].toNat=45:=by omega
     have hgood:(if i=0 then M7 t[i] else a1x t[i])=true→∀ st':St,st'.env 0=.val (.str (bs t))→st'.env 3=.val (.int .i64 (IntKind.i64.wrap ((i:Int)+1))) →
      ∃ x',(x'≤t.length∧V9 M7 a1x (t.take x')=true)∧t.length - x' < t.length - i∧Le st' ⟨l8 [(0,.val (.str (bs t))),(3,.val (.int .i64 (x':Int)))],l9 []⟩:=fun hg st' q1 q2=>by
      refine ⟨i+1,⟨by omega,by rw [hstep,hg]⟩,by omega,Le.mk _ _ ?_ ?_⟩
      · simp [q1,q2];exact wrap_i64 (by omega) (by omega)
      · simp
     have hres:(if i=0 then M7 t[i] else a1x t[i])=false→a1h t=false:=fun h=>by rw [hw];exact A1 h
     by_cases a4:i=0
     · rw [if_pos a4] at hgood hres
       by_cases a1:t[i].toNat < 97
       · have hr:=hres (by simp [M7];omega)
         by_cases a3:t[i].toNat=45
         · simp [b9,j4,h3,e1,e3,a1,a3,(eq_true a4:(i=0)=True),hr]
         · simp [b9,j4,h3,e1,e3,a1,a3,hr]
       · by_cases a2:122 < t[i].toNat
         · have hr:=hres (by simp [M7];omega)
           have a3:¬ t[i].toNat=45:=by omega
           simp [b9,j4,h3,e1,e2,e3,a1,a2,a3,hr]
         · simp [b9,j4,h3,e1,e2,e3,a1,a2]
           exact hgood (by simp [M7];omega) _ (by simp) (by simp)
     · rw [if_neg a4] at hgood hres
       by_cases a1:t[i].toNat < 97
       · by_cases a3:t[i].toNat=45
         · simp [b9,j4,h3,e1,e3,a1,a3,a4]
           exact hgood (by simp [a1x,a3]) _ (by simp) (by simp)
         · have hr:=hres (by simp [a1x,M7,a3];omega)
           simp [b9,j4,h3,e1,e3,a1,a3,hr]
       · by_cases a2:122 < t[i].toNat
         · have a3:¬ t[i].toNat=45:=by omega
           have hr:=hres (by simp [a1x,M7,a3];omega)
           simp [b9,j4,h3,e1,e2,e3,a1,a2,a3,hr]
         · simp [b9,j4,h3,e1,e2,e3,a1,a2]
           exact hgood (by simp [a1x,M7];omega) _ (by simp) (by simp)
   · have e:i=t.length:=by omega
     subst e
     rw [List.take_length] at hall
     simp [hw,hall]
theorem c1z (c:UInt8):d8 Tryz.prog 147 [.val (rvb c)] (.ret (.val (.bool (decide (c.toNat=32∨c.toNat=9)))) []) []:=by
 refine f5 mixed ok147 rfl (fun _=>rfl) ?_
 unfold ir147
 rw [b7]
 have e1:((c.toNat:Int)=32)↔c.toNat=32:=by omega
 have e2:((c.toNat:Int)=9)↔c.toNat=9:=by omega
 by_cases h1:c.toNat=32<;>by_cases h2:c.toNat=9<;>simp [d9,i6,j6,b8,d7,rvb,e1,e2,h1,h2]
def a13 (c:UInt8):Bool:=!decide (c.toNat=32∨c.toNat=9∨c.toNat=59)
theorem a72 (w:Tx):X7 w=(decide (w≠[]) && w.all a13):=rfl
theorem c5p (t:Tx) (ht:t.length < 1099511627776):d8 Tryz.prog 109 [.val (tx t)] (.ret (.val (.bool (X7 t))) []) []:=by
 refine f5 mixed ok109 rfl (fun _=>rfl) ?_
 unfold ir109
 rw [b7]
 simp [d9,i6,j6,b8,d7,tx,b9]
 refine j7 (X:=Nat) (fun i=>⟨l8 [(0,.val (.str (bs t))),(3,.val (.int .i64 i))],l9 []⟩) (fun i=>i≤t.length∧(t.take i).all a13=true) (fun i=>t.length - i) 0 (Le.mk _ _ ?_ ?_) ?_ ?_
 · simp [upd]
 · simp
 · simp
 · rintro i ⟨hi,hall⟩
   simp [b9,j4]
   refine f6 (fun h3=>?_) (fun h3=>?_)
   · have hstep:=Q4 t a13 i h3
     rw [hall,Bool.true_and] at hstep
     have A1:a13 t[i]=false→X7 t=false:=fun h=>by
      rw [a72]
      have:t.all a13=false:=by rw [List.all_eq_false];exact ⟨t[i],List.getElem_mem h3,by simp [h]⟩
      rw [this,Bool.and_false]
     have e3:((t[i].toNat:Int)=59)↔t[i].toNat=59:=by omega
     simp [b9,j4,h3]
     refine b6 rfl rfl (.inl rfl) (c1z t[i]) ?_
     by_cases a1:t[i].toNat=32∨t[i].toNat=9
     · have hb:=A1 (by unfold a13;simp;omega)
       rw [decide_eq_true a1]
       simp [hb]
     · rw [decide_eq_false a1]
       by_cases a2:t[i].toNat=59
       · have hb:=A1 (by unfold a13;simp;omega)
         simp [b9,j4,h3,a2,hb]
       · simp [b9,j4,h3,e3,a2]
         refine LoopNext.mk (i+1) ⟨by omega,by rw [hstep];unfold a13;simp;omega⟩ (by omega) (Le.mk _ _ ?_ ?_)
         · simp;exact wrap_i64 (by omega) (by omega)
         · simp
   · have e:i=t.length:=by omega
     subst e
     rw [List.take_length] at hall
     rw [a72,hall,Bool.and_true]
     by_cases h0:t=[]
     · subst h0;simp [b9]
     · have:0 < t.length:=List.length_pos_iff.2 h0
       simp [b9,h0,this]
theorem b6m (l:List LRule) (name:Tx) (hl:l.length < 1099511627776):d8 Tryz.prog 108 [.val (.list 2 (l.map j9)),.val (tx name)] (.ret (.val (num (a0j l fun r=>decide (r.name=name)))) []) []:=by
 refine f5 mixed ok108 rfl (fun _=>rfl) ?_
 unfold ir108
 rw [b7]
 simp [d9,i6,j6,b8,d7,num]
 refine j7 (X:=Nat) (fun i=>⟨l8 [(0,.val (.list 2 (l.map j9))),(1,.val (tx name)),(5,.val (num i))],l9 []⟩) (fun i=>i≤l.length∧∀ k (hk:k < i) (hk':k < l.length),l[k].name≠name) (fun i=>l.length - i) 0 (Le.mk _ _ ?_ ?_) ?_ ?_
 · simp [upd,num]
 · simp
 · simp
 · rintro i ⟨hi,hne⟩
   simp [num]
   refine f6 (fun h1=>?_) (fun h1=>?_)
   · have e1:(l.map j9)[i]?.getD .nilptr=j9 l[i]:=by simp [List.getElem?_eq_getElem h1]
     simp [num,h1,e1,j9,tx,G9]
     by_cases hu:l[i].name=name
     · have hh:a0j l (fun r=>decide (r.name=name))=i:=X9 h1 (by simp [hu]) (fun k hk=>by simp [hne k hk (by omega)])
       simp [hu,hh,num]
     · simp [hu]
       refine LoopNext.mk (i+1) ⟨by omega,fun k hk hk'=>?_⟩ (by omega) (Le.mk _ _ ?_ ?_)
       · by_cases e:k=i
         · subst e;exact hu
         · exact hne k (by omega) hk'
       · simp [num,tx];exact wrap_i64 (by omega) (by omega)
       · simp
   · have e:i=l.length:=by omega
     have hh:a0j l (fun r=>decide (r.name=name))=-1:=W3 (fun k hk=>by simp [hne k (by omega) hk])
     simp [hh,num]
theorem b9e (l:List Tx) (t:Tx) (hl:l.length < 1099511627776):d8 Tryz.prog 149 [.val (.list 1 (l.map tx)),.val (tx t)] (.ret (.val (.bool (decide (t∈l)))) []) []:=by
 refine f5 mixed ok149 rfl (fun _=>rfl) ?_
 unfold ir149
 rw [b7]
 simp [d9,i6,j6,b8,d7,num]
 refine j7 (X:=Nat) (fun i=>⟨l8 [(0,.val (.list 1 (l.map tx))),(1,.val (tx t)),(5,.val (num i))],l9 []⟩) (fun i=>i≤l.length∧t∉l.take i) (fun i=>l.length - i) 0 (Le.mk _ _ ?_ ?_) ?_ ?_
 · simp [upd,num]
 · simp
 · simp
 · rintro i ⟨hi,hne⟩
   simp [num]
   refine f6 (fun h1=>?_) (fun h1=>?_)
   · have e1:(l.map tx)[i]?.getD .nilptr=tx l[i]:=by simp [List.getElem?_eq_getElem h1]
     simp [num,h1,e1,tx,G9]
     by_cases hu:l[i]=t
     · have:t∈l:=by rw [← hu];exact List.getElem_mem h1
       simp [hu,this]
     · simp [hu]
       refine LoopNext.mk (i+1) ⟨by omega,?_⟩ (by omega) (Le.mk _ _ ?_ ?_)
       · rw [List.take_add_one,List.getElem?_eq_getElem h1,List.mem_append]
         rintro (e | e)
         · exact hne e
         · exact hu (by simpa using e:t=l[i]).symm
       · simp [num,tx];exact wrap_i64 (by omega) (by omega)
       · simp
   · have e:i=l.length:=by omega
     subst e
     rw [List.take_length] at hne
     simp [hne]
theorem b3n (a b:List Tx) (ha:a.length < 1099511627776) (hb:b.length < 1099511627776):d8 Tryz.prog 111 [.val (.list 1 (a.map tx)),.val (.list 1 (b.map tx))] (.ret (.val (.bool (decide (a=b)))) []) []:=by
 refine f5 mixed ok111 rfl (fun _=>rfl) ?_
 unfold ir111
 rw [b7]
 by_cases hlen:a.length=b.length
 rotate_left
 · have h1:¬ (a.length:Int)=b.length:=by omega
   have h2:a≠b:=fun e=>hlen (by rw [e])
   simp [d9,i6,j6,b8,d7,h1,h2]
 simp [d9,i6,j6,b8,d7,num,hlen]
 refine j7 (X:=Nat) (fun i=>⟨l8 [(0,.val (.list 1 (a.map tx))),(1,.val (.list 1 (b.map tx))),(5,.val (num i))],l9 []⟩) (fun i=>i≤a.length∧a.take i=b.take i) (fun i=>a.length - i) 0 (Le.mk _ _ ?_ ?_) ?_ ?_
 · simp [upd,num]
 · simp
 · simp
 · rintro i ⟨hi,heq⟩
   simp [num]
   refine f6 (fun h1=>?_) (fun h1=>?_)
   · have h1b:i < b.length:=by omega
     have e1:(a.map tx)[i]?.getD .nilptr=tx a[i]:=by simp [List.getElem?_eq_getElem h1]
     have e2:(b.map tx)[i]?.getD .nilptr=tx b[i]:=by simp [List.getElem?_eq_getElem h1b]
     simp [num,h1,h1b,e1,e2,tx,G9]
     by_cases hu:a[i]=b[i]
     · simp [hu]
       refine LoopNext.mk (i+1) ⟨by omega,?_⟩ (by omega) (Le.mk _ _ ?_ ?_)
       · rw [List.take_add_one,List.take_add_one,List.getElem?_eq_getElem h1,List.getElem?_eq_getElem h1b,heq,hu]
       · simp [num,tx];exact wrap_i64 (by omega) (by omega)
       · simp
     · have h2:a≠b:=fun e=>hu (by subst e;rfl)
       simp [hu,h2]
   · have e:i=a.length:=by omega
     subst e
     rw [List.take_length,hlen,List.take_length] at heq
     simp [heq]
end Go.Proofs
end
section
namespace Go.Proofs
open Go.PW Go.KP
attribute [local simp] RV.cells RV.one PV.cells PV.solid PV.one t8 f9 H0 A5 RV.ofCells elems PV.killL
variable [GF]
structure MK (st:St) (rules:List LRule) (rt:Tx) (acc:List Tx):Prop where
 e0:st.env 0=.val (.list 2 (rules.map j9))
 e2:st.env 2=.ptr 2 0
 e3:st.env 3=.ptr 3 0
 m2:st.mem 2=.box [.val (tx []),.emp 1,.emp 2]
 m3:st.mem 3=.box [.val (tx rt),.own 9,.val (.list 2 (rules.map j9))]
 m9:st.mem 9=.row 9 1 (acc.map tx)
theorem b2k (rules:List LRule) (rt:Tx) (acc:List Tx) (st:St) (h:MK st rules rt acc):EC Tryz.prog ir110_from4 st (K:=⟨a1i [.c 2 true 3] (.val (k8 ⟨rt,acc,rules⟩))⟩):=by
 unfold ir110_from4
 simp [h.e2,h.e3,h.m2,h.m3,h.m9,tx]
 refine (b5f (id:=2) (n:=3) (cs:=[.val (tx rt),.own 9,.val (.list 2 (rules.map j9))]) (rs:=[tx rt,.list 1 (acc.map tx),.list 2 (rules.map j9)]) ?_ ?_ ?_ rfl (by omega)).trans ?_
 · simp [h.e2]
 · simp
   rfl
 · simp [PV.frzL,PV.frz,PV.plL,PV.pl,V2,h.m9,tx]
 · simp [H0,f9,k8]
theorem a5a (rules:List LRule) (hr:bdS 1048576 (Y8 1048576) rules) (rt:Tx) (st:St) (h:MK st rules rt []):EC Tryz.prog ir110_from3 st (K:=⟨a1i [.c 2 true 3] (.val (k8 ⟨rt,a17 rules,rules⟩))⟩):=by
 unfold ir110_from3
 have hrl:=hr.1
 simp [h.e0,h.e2,h.e3,h.m2,h.m3,h.m9]
 refine b6 rfl rfl (.inl rfl) (b6m rules a0s (by omega)) ?_
 rcases a94 rules (fun r=>decide (r.name=a0s)) with ⟨k1,k2⟩ | ⟨k,hk,k1,k2⟩
 · rw [k1]
   have e:a17 rules=[]:=by unfold a17 U5;rw [k2];rfl
   rw [e]
   simp [num]
   refine b2k rules rt [] _ ⟨?_,?_,?_,?_,?_,?_⟩<;>simp [h.e0,h.e2,h.e3,h.m2,h.m3,h.m9]
 · rw [k1]
   have e:a17 rules=rules[k].words.foldl P4 []:=by unfold a17 U5;rw [k2]
   rw [e]
   have hb:=(hr.2 _ (List.getElem_mem hk)).2
   obtain ⟨r,hrk⟩:∃ r,rules[k]=r:=⟨_,rfl⟩
   rw [hrk] at hb k2 ⊢
   have hwl:=hb.1
   simp [num]
   refine j7 (X:=Nat) (fun i=>⟨l8 [(0,.val (.list 2 (rules.map j9))),(2,.ptr 2 0),(3,.ptr 3 0),(5,.val (num k)),(6,.val (num i))],l9 [(2,.box [.val (tx []),.emp 1,.emp 2]),(3,.box [.val (tx rt),.own 9,.val (.list 2 (rules.map j9))]),(9,.row 9 1 (((r.words.take i).foldl P4 []).map tx))]⟩) (fun i=>i≤r.words.length) (fun i=>r.words.length - i) 0 (Le.mk _ _ ?_ ?_) ?_ ?_
   · simp [upd,num,h.e0,h.e2,h.e3]
   · simp [h.m2,h.m3,h.m9]
   · simp
   · intro i hi
     simp [num,hk,hrk,j9]
     refine f6 (fun h1=>?_) (fun h1=>?_)
     · have e1:(r.words.map tx)[i]?.getD .nilptr=tx r.words[i]:=by simp [List.getElem?_eq_getElem h1]
       have hwi:r.words[i].length≤1048576:=hb.2 _ (List.getElem_mem h1)
       have hst:=a5v P4 [] r.words i h1
       have hal:((r.words.take i).foldl P4 []).length≤4:=a52 _ _ (by simp)
       generalize (r.words.take i).foldl P4 []=acc at *
       simp [num,hk,hrk,j9,h1,e1,tx]
       refine a6u rfl rfl (fun _=>rfl) rfl (.inl rfl) (c10 r.words[i] (by omega)) ?_
       cases hc:a74 r.words[i] with
       | none=>
        have hu:P4 acc r.words[i]=acc:=by unfold P4;rw [hc]
        rw [hu] at hst
        simp [W5]
        refine LoopNext.mk (i+1) (by omega) (by omega) (Le.mk _ _ ?_ ?_)
        · simp [num];exact wrap_i64 (by omega) (by omega)
        · simp [hst,tx]
       | some u=>
        simp [W5]
        refine b6 rfl rfl (.inr rfl) (b9e acc u (by omega)) ?_
        by_cases hm:u∈acc
        · have hu:P4 acc r.words[i]=acc:=by unfold P4;rw [hc];simp [hm]
          rw [hu] at hst
          simp [hm]
          refine LoopNext.mk (i+1) (by omega) (by omega) (Le.mk _ _ ?_ ?_)
          · simp [num];exact wrap_i64 (by omega) (by omega)
          · simp [hst,tx]
        · by_cases h4:acc.length < 4
          · have hu:P4 acc r.words[i]=acc++[u]:=by unfold P4;rw [hc];simp [hm,h4]
            rw [hu] at hst
            have h4':(acc.length:Int) < 4:=by omega
            simp [hm,h4,h4',tx]
            refine ⟨by omega,by omega,LoopNext.mk (i+1) (by omega) (by omega) (Le.mk _ _ ?_ ?_)⟩
            · simp [num];exact wrap_i64 (by omega) (by omega)
            · simp [hst,tx]
          · have hu:P4 acc r.words[i]=acc:=by unfold P4;rw [hc];simp [h4]
            rw [hu] at hst
            have h4':¬ (acc.length:Int) < 4:=by omega
            simp [hm,h4,h4']
            refine LoopNext.mk (i+1) (by omega) (by omega) (Le.mk _ _ ?_ ?_)
            · simp [num];exact wrap_i64 (by omega) (by omega)
            · simp [hst,tx]
     · have e9:i=r.words.length:=by omega
       subst e9
       simp
       refine b2k rules rt _ _ ⟨?_,?_,?_,?_,?_,?_⟩<;>simp
theorem c5r (rules:List LRule) (hr:bdS 1048576 (Y8 1048576) rules):d8 Tryz.prog 110 [.val (.list 2 (rules.map j9))] (.ret (.val (k8 ⟨a18 rules,a17 rules,rules⟩)) []) []:=by
 refine f5 mixed ok110 rfl (fun _=>rfl) ?_
 unfold ir110
 rw [b7]
 have hrl:=hr.1
 simp [d9,i6,j6,b8,d7,PV.kill]
 refine b6 rfl rfl (.inl rfl) (b6m rules a2k (by omega)) ?_
 rcases a94 rules (fun r=>decide (r.name=a2k)) with ⟨k1,k2⟩ | ⟨k,hk,k1,k2⟩
 · rw [k1]
   have e:a18 rules=[]:=by unfold a18 U5;rw [k2];rfl
   rw [e]
   simp [num]
   refine a5a rules hr [] _ ⟨?_,?_,?_,?_,?_,?_⟩<;>simp [tx,bs]
 · rw [k1]
   have hb:=(hr.2 _ (List.getElem_mem hk)).2
   obtain ⟨r,hrk⟩:∃ r,rules[k]=r:=⟨_,rfl⟩
   rw [hrk] at hb k2
   have e0:a18 rules=a3y r.words:=by unfold a18 U5;rw [k2]
   rw [e0]
   simp [num,hk,hrk,j9]
   cases hw:r.words with
   | nil=>
    rw [show a3y []=[] from rfl]
    simp
    refine a5a rules hr [] _ ⟨?_,?_,?_,?_,?_,?_⟩<;>simp [tx,bs]
   | cons w ws=>
    have hwl:w.length≤1048576:=hb.2 w (by rw [hw];simp)
    simp [hk,hrk,j9,hw,tx]
    refine b6 rfl rfl (.inl rfl) (b0b w (by omega)) ?_
    have e1:a3y (w :: ws)=if a0m w then w else []:=rfl
    rw [e1]
    cases hlw:a0m w with
    | false=>
     rw [if_neg (by simp)]
     simp
     refine a5a rules hr [] _ ⟨?_,?_,?_,?_,?_,?_⟩<;>simp [tx,bs]
    | true=>
     rw [if_pos rfl]
     simp [hk,hrk,j9,hw,tx]
     refine a5a rules hr w _ ⟨?_,?_,?_,?_,?_,?_⟩<;>simp [tx,bs]
structure OKS (st:St) (p:LPolicy) (i:Nat):Prop where
 e1:st.env 1=.ptr 1 0
 e3:st.env 3=.val (num i)
 m1:st.mem 1=.box [.val (tx p.reportTo),.val (.list 1 (p.uris.map tx)),.val (.list 2 (p.rules.map j9))]
theorem okpol_words {K:Kx (PExit→St→Prop)} {st:St} {p:LPolicy} {i:Nat} {r:LRule} (hb:Y8 1048576 r) (h:OKS st p i) (h4:st.env 4=.ptr 4 0) (h5:st.env 5=.val (num 0)) (m4:st.mem 4=.box [.val (tx r.name),.val (.list 1 (r.words.map tx))])
 (hK:∀ st',OKS st' p i→r.words.all X7=true→K.k .normal st') (hR:∀ st',st'.env 2=.val (.bool false)→r.words.all X7=false→K.k .ret st') :
 EC Tryz.prog ir71_s42 st (K:=K):=by
 unfold ir71_s42
 have hwl:=hb.2.1
 simp only [y5,G3,y7,G1,y8,t6,y6,G2,m8,B2,H6,H7,k6,p9,q7,l4,y9,s8,l6,G0,y4,q9,q8,E1,E3,a04,a05,Option.getD_some,Option.getD_none,C7,u2,o9,D7,o8,o2,D9,o3,D8,D6,D5,I1,w9,o6,D3,w7,o5,D2,C5,D4,w8,D0,o1,w6,D1,I3,I2,C6,C8,o4,C9,x1,o7,B5,n5,C4,C3,C2,H8,v8,n7,C0,v6,n6,B9,B3,C1,v7,B7,n0,u9,B8,I0,H9,B4,u7,n9,B6,w5,n8,K2,J9,L5,K3,K7,K5,K4,L4,K6,K8,K9,L2,L3,z7,z6,z1,M8,M9,A8,G4,u3,E7,x3,L7,t7,R5,N2,M0,O4,O6,O5,R6,R7,J2,J4,J3,J5,J6,O1,x6,O0,E8,E9,F0,x7,a09,F7,y0,R3,R4,I4,N0,N1,Option.map_some,Option.map_none,F1,x8,x2,p5,E5,E6,I6,I5,P1,P0,J8,F8,F9,J7,O7,O8,I7,p7,I8,p6,N6,F6,F5,l5,O3,O9,J1,N7,N9,N8,x5,A9,B1,B0,l0,O2,S0,R9,N3,I9,V3,N4,p8,F3,F4,x9,F2,l3,u5,l2,u6,l1,L6,P2,P3,z8,A0,G6,G5,E4]
 refine j7 (X:=Nat) (fun j=>⟨l8 [(1,.ptr 1 0),(3,.val (num i)),(4,.ptr 4 0),(5,.val (num j))],l9 [(1,.box [.val (tx p.reportTo),.val (.list 1 (p.uris.map tx)),.val (.list 2 (p.rules.map j9))]),(4,.box [.val (tx r.name),.val (.list 1 (r.words.map tx))])]⟩) (fun j=>j≤r.words.length∧(r.words.take j).all X7=true) (fun j=>r.words.length - j) 0 (Le.mk _ _ ?_ ?_) ?_ ?_
 · simp [h.e1,h.e3,h4,h5]
 · simp [h.m1,m4]
 · simp
 · rintro j ⟨hj,hall⟩
   unfold ir71_l42
   simp [num]
   refine f6 (fun h1=>?_) (fun h1=>?_)
   · have e1:(r.words.map tx)[j]?.getD .nilptr=tx r.words[j]:=by simp [List.getElem?_eq_getElem h1]
     have hwj:r.words[j].length≤1048576:=hb.2.2 _ (List.getElem_mem h1)
     have hst:(r.words.take (j+1)).all X7=((r.words.take j).all X7 && X7 r.words[j]):=Q4 _ _ _ h1
     rw [hall,Bool.true_and] at hst
     simp [num,h1,e1,tx]
     refine b6 rfl rfl (.inl rfl) (c5p r.words[j] (by omega)) ?_
     cases hw:X7 r.words[j] with
     | false=>
      simp
      refine hR _ (by simp) ?_
      rw [List.all_eq_false]
      exact ⟨r.words[j],List.getElem_mem h1,by simp [hw]⟩
     | true=>
      simp
      refine LoopNext.mk (j+1) ⟨by omega,by rw [hst,hw]⟩ (by omega) (Le.mk _ _ ?_ ?_)
      · simp [num];exact wrap_i64 (by omega) (by omega)
      · simp [tx]
   · have e:j=r.words.length:=by omega
     subst e
     rw [List.take_length] at hall
     simp
     refine hK _ ⟨?_,?_,?_⟩ hall<;>simp [num,tx]
theorem okpol_from3 (p:LPolicy) (hb:Y3 1048576 p) (i:Nat) (st:St) (h:OKS st p i):EC Tryz.prog ir71_from3 st (K:=⟨a1i [.t 2] (.val (.bool (decide (p.reportTo=a18 p.rules) && decide (p.uris=a17 p.rules))))⟩):=by
 unfold ir71_from3
 have hul:=hb.2.1.1
 have hl4:=a52 (U5 p.rules a0s) [] (by simp)
 simp [h.e1,h.m1]
 refine b6 rfl rfl (.inl rfl) (c5r p.rules hb.2.2) ?_
 simp [k8,tx,G9,h.e1,h.m1,PV.kill]
 by_cases hr:p.reportTo=a18 p.rules
 · rw [← hr]
   simp [h.e1,h.m1,PV.kill]
   refine b6 rfl rfl (.inl rfl) (b3n p.uris (a17 p.rules) (by omega) (by unfold a17;omega)) ?_
   simp
 · simp [hr]
theorem a9b (p:LPolicy) (h:(p.rules.all V0 && a1k (p.rules.map fun r=>r.name))=true) (h8:p.rules.length≤8):W2 p=(decide (p.reportTo=a18 p.rules) && decide (p.uris=a17 p.rules)):=by
 unfold W2;rw [h,decide_eq_true h8];rfl
theorem a7n (p:LPolicy) (i:Nat) (hi:i < p.rules.length) (h:(V0 p.rules[i] && decide ((p.rules[i]).name∉(p.rules.map fun r=>r.name).take i))=false):W2 p=false:=by
 unfold W2
 rw [Bool.and_eq_false_iff] at h
 have:(p.rules.all V0 && a1k (p.rules.map fun r=>r.name))=false:=by
  rw [Bool.and_eq_false_iff]
  rcases h with h | h
  · exact .inl (List.all_eq_false.2 ⟨_,List.getElem_mem hi,by simp [h]⟩)
  · refine .inr (b0u _ (i+1) ?_)
    rw [a2o _ i (by simpa using hi)]
    simp only [List.getElem_map]
    rw [h,Bool.and_false]
 rw [this];simp
theorem c_l04OK (p:LPolicy) (hb:Y3 1048576 p):d8 Tryz.prog 71 [.val (k8 p)] (.ret (.val (.bool (W2 p))) []) []:=by
 refine f5 mixed ok71 rfl (fun _=>rfl) ?_
 unfold ir71
 rw [b7]
 have hrl:=hb.2.2.1
 by_cases h8:p.rules.length≤8
 rotate_left
 · have h8':(8:Int) < p.rules.length:=by omega
   have:W2 p=false:=by unfold W2;rw [decide_eq_false h8];rfl
   simp [d9,i6,j6,b8,d7,k8,tx,h8',this]
 have h8':¬ (8:Int) < p.rules.length:=by omega
 simp [d9,i6,j6,b8,d7,k8,tx,h8']
 refine j7 (X:=Nat) (fun i=>⟨l8 [(1,.ptr 1 0),(3,.val (num i))],l9 [(1,.box [.val (tx p.reportTo),.val (.list 1 (p.uris.map tx)),.val (.list 2 (p.rules.map j9))])]⟩) (fun i=>i≤p.rules.length∧((p.rules.take i).all V0 && a1k ((p.rules.map fun r=>r.name).take i))=true) (fun i=>p.rules.length - i) 0 (Le.mk _ _ ?_ ?_) ?_ ?_
 · simp [upd,num]
 · simp [tx]
 · simp [a1k]
 · rintro i ⟨hi,hall⟩
   unfold ir71_l11
   simp [num]
   refine f6 (fun h1=>?_) (fun h1=>?_)
   · have hbr:=hb.2.2.2 _ (List.getElem_mem h1)
     have hst:(p.rules.take (i+1)).all V0=((p.rules.take i).all V0 && V0 p.rules[i]):=Q4 _ _ _ h1
     have hst2:=a2o (p.rules.map fun r=>r.name) i (by simpa using h1)
     simp only [List.getElem_map] at hst2
     have A1:=a7n p i h1
     have hself:=a93 (fun r:LRule=>r.name) p.rules i h1
     rw [Bool.and_eq_true] at hall
     rw [hall.1,Bool.true_and] at hst
     rw [hall.2,Bool.true_and] at hst2
     obtain ⟨r,hrk⟩:∃ r,p.rules[i]=r:=⟨_,rfl⟩
     rw [hrk] at hbr hst hst2 A1
     simp only [hrk] at hself
     have hnl:r.name.length≤1048576:=hbr.1
     have hwl:r.words.length≤1048576:=hbr.2.1
     simp [num,h1,hrk,j9,tx,PV.kill]
     refine b6 rfl rfl (.inl rfl) (c5q r.name (by omega)) ?_
     cases hn:a1h r.name with
     | false=>
      have hb2:=A1 (by unfold V0;rw [hn];rfl)
      simp [hb2]
     | true=>
      simp [num,h1,hrk,j9,tx,PV.kill]
      refine b6 rfl rfl (.inl rfl) (b6m p.rules r.name (by omega)) ?_
      by_cases hu:r.name∈(p.rules.map fun r=>r.name).take i
      · have hb2:=A1 (by rw [decide_eq_false (fun h=>h hu),Bool.and_false])
        have hne:¬ (a0j p.rules fun x=>decide (x.name=r.name))=(i:Int):=fun h=>hself.1 h hu
        simp [num,hb2,hne]
      · have heq:=hself.2 hu
        rw [decide_eq_true hu] at hst2
        by_cases hw8:r.words.length≤8
        rotate_left
        · have hb2:=A1 (by unfold V0;rw [decide_eq_false hw8];simp)
          have hw8':(8:Int) < r.words.length:=by omega
          simp [num,hb2,heq,hw8']
        · have hw8':¬ (8:Int) < r.words.length:=by omega
          simp [num,heq,hw8',PV.kill]
          refine okpol_words (p:=p) (i:=i) (r:=r) hbr ⟨?_,?_,?_⟩ ?_ ?_ ?_ (fun st' hs hall2=>?_) (fun st' h2 hall2=>?_)
          · simp
          · simp [num]
          · simp [tx]
          · simp
          · simp [num]
          · simp [tx]
          · have hok:V0 r=true:=by unfold V0;rw [hn,decide_eq_true hw8,hall2];rfl
            simp [hs.e1,hs.e3,num]
            refine LoopNext.mk (i+1) ⟨by omega,by rw [hst,hst2,hok];rfl⟩ (by omega) (Le.mk _ _ ?_ ?_)
            · simp [num,hs.e1];exact wrap_i64 (by omega) (by omega)
            · simp [hs.m1]
          · have hb2:=A1 (by unfold V0;rw [hall2];simp)
            simp [h2,hb2]
   · have e:i=p.rules.length:=by omega
     subst e
     rw [List.take_length,List.take_of_length_le (by simp)] at hall
     rw [a9b p hall h8]
     simp
     refine okpol_from3 p hb p.rules.length _ ⟨?_,?_,?_⟩<;>simp [num,tx]
end Go.Proofs
end
section
namespace Go.Proofs
open Go.PW Go.KP
attribute [local simp] RV.cells RV.one PV.cells PV.solid PV.one t8 f9 H0 A5 RV.ofCells elems PV.killL
variable [GF]
theorem c_l03At (l:List LTarget) (name:Tx) (hl:l.length < 1099511627776):d8 Tryz.prog 151 [.val (.list 3 (l.map i7)),.val (tx name)] (.ret (.val (num (a0j l fun r=>decide (r.url=name)))) []) []:=by
 refine f5 mixed ok151 rfl (fun _=>rfl) ?_
 unfold ir151
 rw [b7]
 simp [d9,i6,j6,b8,d7,num]
 refine j7 (X:=Nat) (fun i=>⟨l8 [(0,.val (.list 3 (l.map i7))),(1,.val (tx name)),(5,.val (num i))],l9 []⟩) (fun i=>i≤l.length∧∀ k (hk:k < i) (hk':k < l.length),l[k].url≠name) (fun i=>l.length - i) 0 (Le.mk _ _ ?_ ?_) ?_ ?_
 · simp [upd,num]
 · simp
 · simp
 · rintro i ⟨hi,hne⟩
   simp [num]
   refine f6 (fun h1=>?_) (fun h1=>?_)
   · have e1:(l.map i7)[i]?.getD .nilptr=i7 l[i]:=by simp [List.getElem?_eq_getElem h1]
     simp [num,h1,e1,i7,tx,G9]
     by_cases hu:l[i].url=name
     · have hh:a0j l (fun r=>decide (r.url=name))=i:=X9 h1 (by simp [hu]) (fun k hk=>by simp [hne k hk (by omega)])
       simp [hu,hh,num]
     · simp [hu]
       refine LoopNext.mk (i+1) ⟨by omega,fun k hk hk'=>?_⟩ (by omega) (Le.mk _ _ ?_ ?_)
       · by_cases e:k=i
         · subst e;exact hu
         · exact hne k (by omega) hk'
       · simp [num,tx];exact wrap_i64 (by omega) (by omega)
       · simp
   · have e:i=l.length:=by omega
     have hh:a0j l (fun r=>decide (r.url=name))=-1:=W3 (fun k hk=>by simp [hne k (by omega) hk])
     simp [hh,num]
theorem b5w (g:LGroup) (i:Nat) (hi:i < g.targets.length) (h:(N5 g.targets[i] && decide ((g.targets[i]).url∉(g.targets.map fun r=>r.url).take i))=false):(g.targets.all N5 && a1k (g.targets.map fun t=>t.url))=false:=by
 rw [Bool.and_eq_false_iff] at h ⊢
 rcases h with h | h
 · exact .inl (List.all_eq_false.2 ⟨_,List.getElem_mem hi,by simp [h]⟩)
 · refine .inr (b0u _ (i+1) ?_)
   rw [a2o _ i (by simpa using hi)]
   simp only [List.getElem_map]
   rw [h,Bool.and_false]
theorem c0u (g:LGroup) (b1 b2 b3:Bool) (hb:a07 1048576 g) (hW:d8 Tryz.prog 115 [.val (tx g.name)] (.ret (.val (.bool b1)) []) []) (hA:d8 Tryz.prog 56 [.val (.int .i64 g.age),.val (.int .i64 1),.val (.int .i64 100)] (.ret (.val (.bool b2)) []) [])
 (hT:d8 Tryz.prog 56 [.val (.int .i64 g.targets.length),.val (.int .i64 1),.val (.int .i64 4)] (.ret (.val (.bool b3)) []) []) :
 d8 Tryz.prog 112 [.val (H1 g)] (.ret (.val (.bool (b1 && b2 && b3 && (g.targets.all N5 && a1k (g.targets.map fun t=>t.url))))) []) []:=by
 have htl:g.targets.length≤1048576:=hb.2.1
 refine f5 mixed ok112 rfl (fun _=>rfl) ?_
 unfold ir112
 rw [b7]
 simp [d9,i6,j6,b8,d7,H1,tx,num]
 refine b6 rfl rfl (.inl rfl) hW ?_
 cases b1 with
 | false=>simp
 | true=>
  simp [num]
  refine b6 rfl rfl (.inl rfl) hA ?_
  cases b2 with
  | false=>simp
  | true=>
   simp [num]
   refine b6 rfl rfl (.inl rfl) hT ?_
   cases b3 with
   | false=>simp
   | true=>
    simp [num]
    refine j7 (X:=Nat) (fun i=>⟨l8 [(1,.ptr 1 0),(3,.val (num i))],l9 [(1,.box [.val (tx g.name),.val (num g.age),.val (.list 3 (g.targets.map i7))])]⟩) (fun i=>i≤g.targets.length∧((g.targets.take i).all N5 && a1k ((g.targets.map fun r=>r.url).take i))=true) (fun i=>g.targets.length - i) 0 (Le.mk _ _ ?_ ?_) ?_ ?_
    · simp [upd,num]
    · simp [tx,num]
    · simp [a1k]
    · rintro i ⟨hi,hall⟩
      simp [num]
      refine f6 (fun h1=>?_) (fun h1=>?_)
      · have hbr:(g.targets[i]).url.length≤1048576:=hb.2.2 _ (List.getElem_mem h1)
        have hst:(g.targets.take (i+1)).all N5=((g.targets.take i).all N5 && N5 g.targets[i]):=Q4 _ _ _ h1
        have hst2:=a2o (g.targets.map fun r=>r.url) i (by simpa using h1)
        simp only [List.getElem_map] at hst2
        have A1:=b5w g i h1
        have hself:=a93 (fun r:LTarget=>r.url) g.targets i h1
        rw [Bool.and_eq_true] at hall
        rw [hall.1,Bool.true_and] at hst
        rw [hall.2,Bool.true_and] at hst2
        obtain ⟨r,hrk⟩:∃ r,g.targets[i]=r:=⟨_,rfl⟩
        rw [hrk] at hbr hst hst2 A1
        simp only [hrk] at hself
        have hT3:=b05 r (by omega)
        have hAt:=c_l03At g.targets r.url (by omega)
        simp [num,h1,hrk,i7,tx]
        refine m0 rfl rfl (.inl rfl) hT3 ?_
        cases hn:N5 r with
        | false=>
         have hb2:=A1 (by rw [hn];rfl)
         simp [hb2]
        | true=>
         simp [num,h1,hrk,i7,tx]
         refine m0 rfl rfl (.inl rfl) hAt ?_
         by_cases hu:r.url∈(g.targets.map fun r=>r.url).take i
         · have hb2:=A1 (by rw [decide_eq_false (fun h=>h hu),Bool.and_false])
           have hne:¬ (a0j g.targets fun x=>decide (x.url=r.url))=(i:Int):=fun h=>hself.1 h hu
           simp [num,hb2,hne]
         · have heq:=hself.2 hu
           rw [decide_eq_true hu] at hst2
           simp [num,heq]
           refine LoopNext.mk (i+1) ⟨by omega,by rw [hst,hst2,hn];rfl⟩ (by omega) (Le.mk _ _ ?_ ?_)
           · simp [num];exact wrap_i64 (by omega) (by omega)
           · simp [tx,num]
      · have e:i=g.targets.length:=by omega
        subst e
        rw [List.take_length,List.take_of_length_le (by simp)] at hall
        simp [hall]
theorem c_l03OK (g:LGroup) (hb:a07 1048576 g):d8 Tryz.prog 112 [.val (H1 g)] (.ret (.val (.bool (a19 g))) []) []:=by
 have hnl:g.name.length≤1048576:=hb.1
 have h:=c0u g _ _ _ hb (b0b g.name (by omega)) (S6 .i64 g.age 1 100) (S6 .i64 g.targets.length 1 4)
 have q3:(1≤g.targets.length∧g.targets.length≤4)↔((1:Int)≤g.targets.length∧(g.targets.length:Int)≤4):=by omega
 unfold a19
 rw [decide_eq_decide.2 q3]
 exact h
end Go.Proofs
end
